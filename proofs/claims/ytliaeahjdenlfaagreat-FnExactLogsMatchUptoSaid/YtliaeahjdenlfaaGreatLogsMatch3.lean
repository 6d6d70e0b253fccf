/- FnExactLogsMatch: for every pair of bulk at most 1048576 the law returns true and its argument reads as before; no further condition. -/
import Derived.Test.YtliaeahjdenlfaaGreatProg
import Derived.KernelRfl
import Derived.Test.YtliaeahjdenlfaaGreatLogsMatch0
import Derived.Test.YtliaeahjdenlfaaGreatLogsMatch1
import Derived.Test.YtliaeahjdenlfaaGreatLogsMatch2
set_option linter.unusedVariables false
set_option maxRecDepth 100000
namespace Go.Proofs.YtliaeahjdenlfaaGreat
open Go Go.Dn

def laws_toMailS.sg : Sig := ⟨[.b (.sl kMail)], [((.sl kMail), .dp)]⟩
def laws_toMailS.E : Env := ⟨tys, bys, [(59, ⟨laws_toMail.sg, laws_toMail.F⟩)], eqs⟩
def laws_toMailS.l3 {ρ : Type} (k : Nat) (c0 : (List (Int × (Int × (Int × (Int × (Int × (Bool × ((Int × ((Int × (Int × ((List Int) × Unit))) × Unit)) × Unit))))))) × Unit) → Option ρ) : Nat → List (Int × (Int × (Int × (Int × (Int × (Bool × ((Int × ((Int × (Int × ((List Int) × Unit))) × Unit)) × Unit))))))) → Int → List (Int × (Int × (Int × (Int × (Int × (Bool × ((Int × ((Int × (Int × ((List Int) × Unit))) × Unit)) × Unit))))))) → Option ρ
  | 0 => fun _ _ _ => none
  | n + 1 => fun x0 x1 x2 => 
    bif (decide ((x1 < (((List.length x0) : Nat) : Int)))) then
    (bif (Go.Dn.inB x1 (((List.length x0) : Nat) : Int)) then
      (Go.Dn.share (List.getD x0 (Int.toNat x1) ((0 : Int), ((0 : Int), ((0 : Int), ((0 : Int), ((0 : Int), (false, (((0 : Int), (((0 : Int), ((0 : Int), (([] : List Int), ()))), ())), ())))))))) fun s0 =>
        (laws_toMail.F k (s0, ())).bind fun y1 =>
        bif (Go.Dn.inB x1 (((List.length x2) : Nat) : Int)) then
        (Go.Dn.share (List.set x2 (Int.toNat x1) (y1.1.1.1, y1.1.1.2.1, y1.1.1.2.2.1, y1.1.1.2.2.2.1, y1.1.1.2.2.2.2.1, y1.1.1.2.2.2.2.2.1, (y1.1.1.2.2.2.2.2.2.1.1, (y1.1.1.2.2.2.2.2.2.1.2.1.1, y1.1.1.2.2.2.2.2.2.1.2.1.2.1, y1.1.1.2.2.2.2.2.2.1.2.1.2.2.1, (List.getD x2 (Int.toNat x1) ((0 : Int), ((0 : Int), ((0 : Int), ((0 : Int), ((0 : Int), (false, (((0 : Int), (((0 : Int), ((0 : Int), (([] : List Int), ()))), ())), ())))))))).2.2.2.2.2.2.1.2.1.2.2.2), (List.getD x2 (Int.toNat x1) ((0 : Int), ((0 : Int), ((0 : Int), ((0 : Int), ((0 : Int), (false, (((0 : Int), (((0 : Int), ((0 : Int), (([] : List Int), ()))), ())), ())))))))).2.2.2.2.2.2.1.2.2), (List.getD x2 (Int.toNat x1) ((0 : Int), ((0 : Int), ((0 : Int), ((0 : Int), ((0 : Int), (false, (((0 : Int), (((0 : Int), ((0 : Int), (([] : List Int), ()))), ())), ())))))))).2.2.2.2.2.2.2)) fun s2 =>
          laws_toMailS.l3 k c0 n x0 (IntKind.wrap .i64 (x1 + (1 : Int))) s2)
        else none)
      else none)
    else c0 (x2, ())
def laws_toMailS.F (k : Nat) (x : ((List (Int × (Int × (Int × (Int × (Int × (Bool × ((Int × ((Int × (Int × ((List Int) × Unit))) × Unit)) × Unit)))))))) × Unit)) : Option (((List (Int × (Int × (Int × (Int × (Int × (Bool × ((Int × ((Int × (Int × ((List Int) × Unit))) × Unit)) × Unit)))))))) × Unit) × Unit) :=
  bif (decide (((((List.length x.1) : Nat) : Int) ≤ (((List.length x.1) : Nat) : Int)))) then
  (bif (Go.Dn.roomy (Int.toNat (((List.length x.1) : Nat) : Int)) 96) then
    (laws_toMailS.l3 k (fun e3 =>
        some (e3, ())) k x.1 (0 : Int) (List.replicate (Int.toNat (((List.length x.1) : Nat) : Int)) ((0 : Int), ((0 : Int), ((0 : Int), ((0 : Int), ((0 : Int), (false, (((0 : Int), (((0 : Int), ((0 : Int), (([] : List Int), ()))), ())), ())))))))))
    else none)
  else none
def laws_toMailS.hd : Hints := ⟨[(3, ⟨[0, 3, 4], []⟩)], [(0, [3]), (1, [0, 3, 4])], [2], [0, 3, 4], []⟩
def laws_toMailS.lps (k : Nat) : List (Nat × Lp laws_toMailS.sg.Out) := [(3, ⟨[.l kMail, .i, .l kMail], fun x => (fun x0 x1 x2 => ⟨[(0, .v false [.fz kMail x0]), (3, .v false [.arr 0]), (4, .v false [.int .i64 x1])], [(0, .arr kMail true false x2)], []⟩) x.1 x.2.1 x.2.2.1, fun C n x => laws_toMailS.l3 k (fun y => C (.exit 0) ((fun y0 => ⟨[(3, .v false [.arr 0])], [(0, .arr kMail true false y0)], []⟩) y.1)) n x.1 x.2.1 x.2.2.1⟩)]
theorem laws_toMailS.loops (k : Nat) : LoopsOk laws_toMailS.E k laws_toMailS.hd (laws_toMailS.lps k) (loopsOf (Go.Proofs.Tryz.f28.body.getD .skip)) := ⟨⟨fun _ _ => rfl, fun _ _ _ => by kernel_rfl, fun _ => ⟨rfl, rfl⟩⟩, trivial⟩
theorem laws_toMailS.den (k : Nat) (x : Sig.In laws_toMailS.sg.ps) : denFn laws_toMailS.E k Go.Proofs.Tryz.f28 laws_toMailS.sg laws_toMailS.hd (runL k laws_toMailS.hd (laws_toMailS.lps k)) x = laws_toMailS.F k x := by kernel_rfl
theorem laws_toMailS.ok (k : Nat) : Contract Tryz.prog 28 laws_toMailS.sg (laws_toMailS.F k) := ok_of (E := laws_toMailS.E) (tysOk _ _) (eqsOk _) ⟨laws_toMail.ok k, trivial⟩ Tryz.func28 rfl (by kernel_rfl) (laws_toMailS.loops k) (laws_toMailS.den k)
def laws_toPair.sg : Sig := ⟨[.b kPair], [(kPair, .dp)]⟩
def laws_toPair.E : Env := ⟨tys, bys, [(25, ⟨laws_toSettings.sg, laws_toSettings.F⟩), (26, ⟨laws_toNodeS.sg, laws_toNodeS.F⟩), (27, ⟨laws_toWireS.sg, laws_toWireS.F⟩), (28, ⟨laws_toMailS.sg, laws_toMailS.F⟩), (29, ⟨laws_toEntryS.sg, laws_toEntryS.F⟩)], eqs⟩
def laws_toPair.F (k : Nat) (x : ((((Int × (Int × (Int × Unit))) × (Int × ((List ((Int × (Int × Unit)) × (Int × (Int × (Int × (Bool × (Int × (Int × Unit)))))))) × ((List ((Int × (Int × Unit)) × (Int × (Int × (Int × (Bool × (Int × (Int × Unit)))))))) × Unit)))) × ((List (Int × (Bool × (Int × (Int × ((List (Int × ((Int × (Int × ((List Int) × Unit))) × Unit))) × (Int × (Int × (Int × (Int × Unit)))))))))) × ((List (Int × ((List Int) × (Int × ((List Int) × Unit))))) × ((List (Int × (Int × (Int × (Int × (Int × (Bool × ((Int × ((Int × (Int × ((List Int) × Unit))) × Unit)) × Unit)))))))) × ((List (Int × ((Int × (Int × ((List Int) × Unit))) × Unit))) × Unit))))) × Unit)) : Option (((((Int × (Int × (Int × Unit))) × (Int × ((List ((Int × (Int × Unit)) × (Int × (Int × (Int × (Bool × (Int × (Int × Unit)))))))) × ((List ((Int × (Int × Unit)) × (Int × (Int × (Int × (Bool × (Int × (Int × Unit)))))))) × Unit)))) × ((List (Int × (Bool × (Int × (Int × ((List (Int × ((Int × (Int × ((List Int) × Unit))) × Unit))) × (Int × (Int × (Int × (Int × Unit)))))))))) × ((List (Int × ((List Int) × (Int × ((List Int) × Unit))))) × ((List (Int × (Int × (Int × (Int × (Int × (Bool × ((Int × ((Int × (Int × ((List Int) × Unit))) × Unit)) × Unit)))))))) × ((List (Int × ((Int × (Int × ((List Int) × Unit))) × Unit))) × Unit))))) × Unit) × Unit) :=
  (laws_toSettings.F k (x.1.1, ())).bind fun y0 =>
  (laws_toNodeS.F k (x.1.2.1, ())).bind fun y1 =>
  (laws_toWireS.F k (x.1.2.2.1, ())).bind fun y2 =>
  (laws_toMailS.F k (x.1.2.2.2.1, ())).bind fun y3 =>
  (laws_toEntryS.F k x.1.2.2.2.2).bind fun y4 =>
  some (((y0.1.1, y1.1.1, y2.1.1, y3.1.1, y4.1), ()), ())
def laws_toPair.hd : Hints := ⟨[], [], [2], [0, 1, 2, 3], []⟩
def laws_toPair.lps (k : Nat) : List (Nat × Lp laws_toPair.sg.Out) := []
theorem laws_toPair.loops (k : Nat) : LoopsOk laws_toPair.E k laws_toPair.hd (laws_toPair.lps k) (loopsOf (Go.Proofs.Tryz.f9.body.getD .skip)) := trivial
theorem laws_toPair.den (k : Nat) (x : Sig.In laws_toPair.sg.ps) : denFn laws_toPair.E k Go.Proofs.Tryz.f9 laws_toPair.sg laws_toPair.hd (runL k laws_toPair.hd (laws_toPair.lps k)) x = laws_toPair.F k x := by kernel_rfl
theorem laws_toPair.ok (k : Nat) : Contract Tryz.prog 9 laws_toPair.sg (laws_toPair.F k) := ok_of (E := laws_toPair.E) (tysOk _ _) (eqsOk _) ⟨laws_toSettings.ok k, laws_toNodeS.ok k, laws_toWireS.ok k, laws_toMailS.ok k, laws_toEntryS.ok k, trivial⟩ Tryz.func9 rfl (by kernel_rfl) (laws_toPair.loops k) (laws_toPair.den k)
def impl_in.sg : Sig := ⟨[.b (.int .i64), .b (.int .i64), .b (.int .i64)], [(.bool, .rd)]⟩
def impl_in.E : Env := ⟨tys, bys, [], eqs⟩
def impl_in.F (k : Nat) (x : (Int × (Int × (Int × Unit)))) : Option ((Bool × Unit) × Unit) :=
  bif (decide ((x.1 ≥ x.2.1))) then
  (some (((decide ((x.1 ≤ x.2.2.1))), ()), ()))
  else some ((false, ()), ())
def impl_in.hd : Hints := ⟨[], [], [6], [0, 1, 2], []⟩
def impl_in.lps (k : Nat) : List (Nat × Lp impl_in.sg.Out) := []
theorem impl_in.loops (k : Nat) : LoopsOk impl_in.E k impl_in.hd (impl_in.lps k) (loopsOf (Go.Proofs.Tryz.f103.body.getD .skip)) := trivial
theorem impl_in.den (k : Nat) (x : Sig.In impl_in.sg.ps) : denFn impl_in.E k Go.Proofs.Tryz.f103 impl_in.sg impl_in.hd (runL k impl_in.hd (impl_in.lps k)) x = impl_in.F k x := by kernel_rfl
theorem impl_in.ok (k : Nat) : Contract Tryz.prog 103 impl_in.sg (impl_in.F k) := ok_of (E := impl_in.E) (tysOk _ _) (eqsOk _) trivial Tryz.func103 rfl (by kernel_rfl) (impl_in.loops k) (impl_in.den k)
def impl_isSystem.sg : Sig := ⟨[.b (.int .i64)], [(.bool, .rd)]⟩
def impl_isSystem.E : Env := ⟨tys, bys, [(103, ⟨impl_in.sg, impl_in.F⟩)], eqs⟩
def impl_isSystem.F (k : Nat) (x : (Int × Unit)) : Option ((Bool × Unit) × Unit) :=
  (impl_in.F k (x.1, (1 : Int), (65535 : Int), ())).bind fun y0 =>
  some y0
def impl_isSystem.hd : Hints := ⟨[], [], [2], [0], []⟩
def impl_isSystem.lps (k : Nat) : List (Nat × Lp impl_isSystem.sg.Out) := []
theorem impl_isSystem.loops (k : Nat) : LoopsOk impl_isSystem.E k impl_isSystem.hd (impl_isSystem.lps k) (loopsOf (Go.Proofs.Tryz.f122.body.getD .skip)) := trivial
theorem impl_isSystem.den (k : Nat) (x : Sig.In impl_isSystem.sg.ps) : denFn impl_isSystem.E k Go.Proofs.Tryz.f122 impl_isSystem.sg impl_isSystem.hd (runL k impl_isSystem.hd (impl_isSystem.lps k)) x = impl_isSystem.F k x := by kernel_rfl
theorem impl_isSystem.ok (k : Nat) : Contract Tryz.prog 122 impl_isSystem.sg (impl_isSystem.F k) := ok_of (E := impl_isSystem.E) (tysOk _ _) (eqsOk _) ⟨impl_in.ok k, trivial⟩ Tryz.func122 rfl (by kernel_rfl) (impl_isSystem.loops k) (impl_isSystem.den k)
def impl_isHold.sg : Sig := ⟨[.b (.int .i64)], [(.bool, .rd)]⟩
def impl_isHold.E : Env := ⟨tys, bys, [(103, ⟨impl_in.sg, impl_in.F⟩)], eqs⟩
def impl_isHold.F (k : Nat) (x : (Int × Unit)) : Option ((Bool × Unit) × Unit) :=
  bif (x.1 == (0 : Int)) then
  (some ((true, ()), ()))
  else (impl_in.F k (x.1, (3 : Int), (200 : Int), ())).bind fun y0 =>
    some y0
def impl_isHold.hd : Hints := ⟨[], [], [2], [0], []⟩
def impl_isHold.lps (k : Nat) : List (Nat × Lp impl_isHold.sg.Out) := []
theorem impl_isHold.loops (k : Nat) : LoopsOk impl_isHold.E k impl_isHold.hd (impl_isHold.lps k) (loopsOf (Go.Proofs.Tryz.f123.body.getD .skip)) := trivial
theorem impl_isHold.den (k : Nat) (x : Sig.In impl_isHold.sg.ps) : denFn impl_isHold.E k Go.Proofs.Tryz.f123 impl_isHold.sg impl_isHold.hd (runL k impl_isHold.hd (impl_isHold.lps k)) x = impl_isHold.F k x := by kernel_rfl
theorem impl_isHold.ok (k : Nat) : Contract Tryz.prog 123 impl_isHold.sg (impl_isHold.F k) := ok_of (E := impl_isHold.E) (tysOk _ _) (eqsOk _) ⟨impl_in.ok k, trivial⟩ Tryz.func123 rfl (by kernel_rfl) (impl_isHold.loops k) (impl_isHold.den k)
def impl_ConfigFault.sg : Sig := ⟨[.b kConfig], [((.int .i64), .rd)]⟩
def impl_ConfigFault.E : Env := ⟨tys, bys, [(122, ⟨impl_isSystem.sg, impl_isSystem.F⟩), (123, ⟨impl_isHold.sg, impl_isHold.F⟩)], eqs⟩
def impl_ConfigFault.F (k : Nat) (x : ((Int × (Int × (Int × Unit))) × Unit)) : Option ((Int × Unit) × Unit) :=
  (impl_isSystem.F k (x.1.1, ())).bind fun y0 =>
  bif (!y0.1.1) then
  (some (((3 : Int), ()), ()))
  else (impl_isSystem.F k (x.1.2.1, ())).bind fun y1 =>
    bif (!y1.1.1) then
    (some (((3 : Int), ()), ()))
    else (impl_isHold.F k x.1.2.2).bind fun y2 =>
      bif (!y2.1.1) then
      (some (((3 : Int), ()), ()))
      else some (((0 : Int), ()), ())
def impl_ConfigFault.hd : Hints := ⟨[], [], [2], [0, 1], []⟩
def impl_ConfigFault.lps (k : Nat) : List (Nat × Lp impl_ConfigFault.sg.Out) := []
theorem impl_ConfigFault.loops (k : Nat) : LoopsOk impl_ConfigFault.E k impl_ConfigFault.hd (impl_ConfigFault.lps k) (loopsOf (Go.Proofs.Tryz.f100.body.getD .skip)) := trivial
theorem impl_ConfigFault.den (k : Nat) (x : Sig.In impl_ConfigFault.sg.ps) : denFn impl_ConfigFault.E k Go.Proofs.Tryz.f100 impl_ConfigFault.sg impl_ConfigFault.hd (runL k impl_ConfigFault.hd (impl_ConfigFault.lps k)) x = impl_ConfigFault.F k x := by kernel_rfl
theorem impl_ConfigFault.ok (k : Nat) : Contract Tryz.prog 100 impl_ConfigFault.sg (impl_ConfigFault.F k) := ok_of (E := impl_ConfigFault.E) (tysOk _ _) (eqsOk _) ⟨impl_isSystem.ok k, impl_isHold.ok k, trivial⟩ Tryz.func100 rfl (by kernel_rfl) (impl_ConfigFault.loops k) (impl_ConfigFault.den k)
def impl_isAddr.sg : Sig := ⟨[.b (.int .i64)], [(.bool, .rd)]⟩
def impl_isAddr.E : Env := ⟨tys, bys, [(103, ⟨impl_in.sg, impl_in.F⟩)], eqs⟩
def impl_isAddr.F (k : Nat) (x : (Int × Unit)) : Option ((Bool × Unit) × Unit) :=
  (impl_in.F k (x.1, (0 : Int), (65535 : Int), ())).bind fun y0 =>
  some y0
def impl_isAddr.hd : Hints := ⟨[], [], [2], [0], []⟩
def impl_isAddr.lps (k : Nat) : List (Nat × Lp impl_isAddr.sg.Out) := []
theorem impl_isAddr.loops (k : Nat) : LoopsOk impl_isAddr.E k impl_isAddr.hd (impl_isAddr.lps k) (loopsOf (Go.Proofs.Tryz.f101.body.getD .skip)) := trivial
theorem impl_isAddr.den (k : Nat) (x : Sig.In impl_isAddr.sg.ps) : denFn impl_isAddr.E k Go.Proofs.Tryz.f101 impl_isAddr.sg impl_isAddr.hd (runL k impl_isAddr.hd (impl_isAddr.lps k)) x = impl_isAddr.F k x := by kernel_rfl
theorem impl_isAddr.ok (k : Nat) : Contract Tryz.prog 101 impl_isAddr.sg (impl_isAddr.F k) := ok_of (E := impl_isAddr.E) (tysOk _ _) (eqsOk _) ⟨impl_in.ok k, trivial⟩ Tryz.func101 rfl (by kernel_rfl) (impl_isAddr.loops k) (impl_isAddr.den k)
def impl_PrefixFault.sg : Sig := ⟨[.b kPrefix], [((.int .i64), .rd)]⟩
def impl_PrefixFault.E : Env := ⟨tys, bys, [(101, ⟨impl_isAddr.sg, impl_isAddr.F⟩), (103, ⟨impl_in.sg, impl_in.F⟩)], eqs⟩
def impl_PrefixFault.F (k : Nat) (x : ((Int × (Int × Unit)) × Unit)) : Option ((Int × Unit) × Unit) :=
  (impl_isAddr.F k (x.1.1, ())).bind fun y0 =>
  bif (!y0.1.1) then
  (some (((3 : Int), ()), ()))
  else (impl_in.F k (x.1.2.1, (0 : Int), (16 : Int), ())).bind fun y1 =>
    bif (!y1.1.1) then
    (some (((3 : Int), ()), ()))
    else bif (decide (((IntKind.wrap .i64 ((16 : Int) - x.1.2.1)) < (0 : Int)))) then
      (none)
      else bif ((Go.Dn.andV .i64 x.1.1 (IntKind.wrap .i64 ((Go.Dn.shlV .i64 (1 : Int) (IntKind.wrap .i64 ((16 : Int) - x.1.2.1))) - (1 : Int)))) != (0 : Int)) then
        (some (((1 : Int), ()), ()))
        else some (((0 : Int), ()), ())
def impl_PrefixFault.hd : Hints := ⟨[], [(0, [])], [2], [0, 1], [(3, [0, 1, 0, 4, 12, 28, 60, 127, 255, 511])]⟩
def impl_PrefixFault.lps (k : Nat) : List (Nat × Lp impl_PrefixFault.sg.Out) := []
theorem impl_PrefixFault.loops (k : Nat) : LoopsOk impl_PrefixFault.E k impl_PrefixFault.hd (impl_PrefixFault.lps k) (loopsOf (Go.Proofs.Tryz.f129.body.getD .skip)) := trivial
theorem impl_PrefixFault.den (k : Nat) (x : Sig.In impl_PrefixFault.sg.ps) : denFn impl_PrefixFault.E k Go.Proofs.Tryz.f129 impl_PrefixFault.sg impl_PrefixFault.hd (runL k impl_PrefixFault.hd (impl_PrefixFault.lps k)) x = impl_PrefixFault.F k x := by kernel_rfl
theorem impl_PrefixFault.ok (k : Nat) : Contract Tryz.prog 129 impl_PrefixFault.sg (impl_PrefixFault.F k) := ok_of (E := impl_PrefixFault.E) (tysOk _ _) (eqsOk _) ⟨impl_isAddr.ok k, impl_in.ok k, trivial⟩ Tryz.func129 rfl (by kernel_rfl) (impl_PrefixFault.loops k) (impl_PrefixFault.den k)
def impl_isTwo.sg : Sig := ⟨[.b (.int .i64)], [(.bool, .rd)]⟩
def impl_isTwo.E : Env := ⟨tys, bys, [(103, ⟨impl_in.sg, impl_in.F⟩)], eqs⟩
def impl_isTwo.F (k : Nat) (x : (Int × Unit)) : Option ((Bool × Unit) × Unit) :=
  (impl_in.F k (x.1, (0 : Int), (65535 : Int), ())).bind fun y0 =>
  some y0
def impl_isTwo.hd : Hints := ⟨[], [], [2], [0], []⟩
def impl_isTwo.lps (k : Nat) : List (Nat × Lp impl_isTwo.sg.Out) := []
theorem impl_isTwo.loops (k : Nat) : LoopsOk impl_isTwo.E k impl_isTwo.hd (impl_isTwo.lps k) (loopsOf (Go.Proofs.Tryz.f130.body.getD .skip)) := trivial
theorem impl_isTwo.den (k : Nat) (x : Sig.In impl_isTwo.sg.ps) : denFn impl_isTwo.E k Go.Proofs.Tryz.f130 impl_isTwo.sg impl_isTwo.hd (runL k impl_isTwo.hd (impl_isTwo.lps k)) x = impl_isTwo.F k x := by kernel_rfl
theorem impl_isTwo.ok (k : Nat) : Contract Tryz.prog 130 impl_isTwo.sg (impl_isTwo.F k) := ok_of (E := impl_isTwo.E) (tysOk _ _) (eqsOk _) ⟨impl_in.ok k, trivial⟩ Tryz.func130 rfl (by kernel_rfl) (impl_isTwo.loops k) (impl_isTwo.den k)
def impl_RuleFault.sg : Sig := ⟨[.b kRule], [((.int .i64), .rd)]⟩
def impl_RuleFault.E : Env := ⟨tys, bys, [(103, ⟨impl_in.sg, impl_in.F⟩), (129, ⟨impl_PrefixFault.sg, impl_PrefixFault.F⟩), (130, ⟨impl_isTwo.sg, impl_isTwo.F⟩)], eqs⟩
def impl_RuleFault.F (k : Nat) (x : (((Int × (Int × Unit)) × (Int × (Int × (Int × (Bool × (Int × (Int × Unit))))))) × Unit)) : Option ((Int × Unit) × Unit) :=
  (impl_PrefixFault.F k (x.1.1, ())).bind fun y0 =>
  bif (y0.1.1 != (0 : Int)) then
  (some y0)
  else (impl_in.F k (x.1.2.1, (0 : Int), (16 : Int), ())).bind fun y1 =>
    bif (!y1.1.1) then
    (some (((3 : Int), ()), ()))
    else (impl_in.F k (x.1.2.2.1, (0 : Int), (16 : Int), ())).bind fun y2 =>
      bif (!y2.1.1) then
      (some (((3 : Int), ()), ()))
      else (impl_isTwo.F k (x.1.2.2.2.1, ())).bind fun y3 =>
        bif (!y3.1.1) then
        (some (((3 : Int), ()), ()))
        else (impl_in.F k (x.1.2.2.2.2.2.1, (-(1 : Int)), (65535 : Int), ())).bind fun y4 =>
          bif (!y4.1.1) then
          (some (((3 : Int), ()), ()))
          else (impl_in.F k (x.1.2.2.2.2.2.2.1, (0 : Int), (3 : Int), ())).bind fun y5 =>
            bif (!y5.1.1) then
            (some (((3 : Int), ()), ()))
            else bif (decide ((x.1.2.1 > x.1.2.2.1))) then
              (some (((1 : Int), ()), ()))
              else bif x.1.2.2.2.2.1 then
                (bif (x.1.2.2.2.2.2.1 != (-(1 : Int))) then
                  (some (((1 : Int), ()), ()))
                  else bif (x.1.2.2.2.2.2.2.1 != (0 : Int)) then
                    (some (((1 : Int), ()), ()))
                    else some (((0 : Int), ()), ()))
                else some (((0 : Int), ()), ())
def impl_RuleFault.hd : Hints := ⟨[], [(0, [])], [2], [0, 1, 3], []⟩
def impl_RuleFault.lps (k : Nat) : List (Nat × Lp impl_RuleFault.sg.Out) := []
theorem impl_RuleFault.loops (k : Nat) : LoopsOk impl_RuleFault.E k impl_RuleFault.hd (impl_RuleFault.lps k) (loopsOf (Go.Proofs.Tryz.f124.body.getD .skip)) := trivial
theorem impl_RuleFault.den (k : Nat) (x : Sig.In impl_RuleFault.sg.ps) : denFn impl_RuleFault.E k Go.Proofs.Tryz.f124 impl_RuleFault.sg impl_RuleFault.hd (runL k impl_RuleFault.hd (impl_RuleFault.lps k)) x = impl_RuleFault.F k x := by kernel_rfl
theorem impl_RuleFault.ok (k : Nat) : Contract Tryz.prog 124 impl_RuleFault.sg (impl_RuleFault.F k) := ok_of (E := impl_RuleFault.E) (tysOk _ _) (eqsOk _) ⟨impl_in.ok k, impl_PrefixFault.ok k, impl_isTwo.ok k, trivial⟩ Tryz.func124 rfl (by kernel_rfl) (impl_RuleFault.loops k) (impl_RuleFault.den k)
def impl_RulesFault.sg : Sig := ⟨[.b (.sl kRule)], [((.int .i64), .rd)]⟩
def impl_RulesFault.E : Env := ⟨tys, bys, [(124, ⟨impl_RuleFault.sg, impl_RuleFault.F⟩)], eqs⟩
def impl_RulesFault.l4 {ρ : Type} (k : Nat) (c0 : (Int × Unit) → Option ρ) (c1 : Unit → Option ρ) : Nat → List ((Int × (Int × Unit)) × (Int × (Int × (Int × (Bool × (Int × (Int × Unit))))))) → Int → Int → Option ρ
  | 0 => fun _ _ _ => none
  | n + 1 => fun x0 x1 x2 => 
    bif (decide ((x2 < x1))) then
    (bif (Go.Dn.inB x2 (((List.length x0) : Nat) : Int)) then
      (Go.Dn.share (List.getD x0 (Int.toNat x2) (((0 : Int), ((0 : Int), ())), ((0 : Int), ((0 : Int), ((0 : Int), (false, ((0 : Int), ((0 : Int), ())))))))) fun s0 =>
        (impl_RuleFault.F k (s0, ())).bind fun y1 =>
        bif (y1.1.1 != (0 : Int)) then
        (c0 (y1.1.1, ()))
        else impl_RulesFault.l4 k c0 c1 n x0 x1 (IntKind.wrap .i64 (x2 + (1 : Int))))
      else none)
    else c1 (())
def impl_RulesFault.F (k : Nat) (x : ((List ((Int × (Int × Unit)) × (Int × (Int × (Int × (Bool × (Int × (Int × Unit)))))))) × Unit)) : Option ((Int × Unit) × Unit) :=
  bif (decide (((((List.length x.1) : Nat) : Int) > (8 : Int)))) then
  (some (((2 : Int), ()), ()))
  else impl_RulesFault.l4 k (fun e2 =>
      some (e2, ())) (fun e3 =>
      some (((0 : Int), ()), ())) k x.1 (((List.length x.1) : Nat) : Int) (0 : Int)
def impl_RulesFault.hd : Hints := ⟨[(4, ⟨[9, 10, 11], []⟩)], [(0, []), (1, [9, 10, 11])], [2], [0, 4, 5, 9, 10, 11], []⟩
def impl_RulesFault.lps (k : Nat) : List (Nat × Lp impl_RulesFault.sg.Out) := [(4, ⟨[.l kRule, .i, .i], fun x => (fun x0 x1 x2 => ⟨[(9, .v false [.fz kRule x0]), (10, .v false [.int .i64 x1]), (11, .v false [.int .i64 x2])], [], []⟩) x.1 x.2.1 x.2.2.1, fun C n x => impl_RulesFault.l4 k (fun y => C .ret ((fun y0 => ⟨[(2, .v false [.int .i64 y0])], [], []⟩) y.1)) (fun _ => C (.exit 0) ⟨[], [], []⟩) n x.1 x.2.1 x.2.2.1⟩)]
theorem impl_RulesFault.loops (k : Nat) : LoopsOk impl_RulesFault.E k impl_RulesFault.hd (impl_RulesFault.lps k) (loopsOf (Go.Proofs.Tryz.f102.body.getD .skip)) := ⟨⟨fun _ _ => rfl, fun _ _ _ => by kernel_rfl, fun _ => ⟨rfl, rfl⟩⟩, trivial⟩
theorem impl_RulesFault.den (k : Nat) (x : Sig.In impl_RulesFault.sg.ps) : denFn impl_RulesFault.E k Go.Proofs.Tryz.f102 impl_RulesFault.sg impl_RulesFault.hd (runL k impl_RulesFault.hd (impl_RulesFault.lps k)) x = impl_RulesFault.F k x := by kernel_rfl
theorem impl_RulesFault.ok (k : Nat) : Contract Tryz.prog 102 impl_RulesFault.sg (impl_RulesFault.F k) := ok_of (E := impl_RulesFault.E) (tysOk _ _) (eqsOk _) ⟨impl_RuleFault.ok k, trivial⟩ Tryz.func102 rfl (by kernel_rfl) (impl_RulesFault.loops k) (impl_RulesFault.den k)
def impl_SettingsFault.sg : Sig := ⟨[.b kSettings], [((.int .i64), .rd)]⟩
def impl_SettingsFault.E : Env := ⟨tys, bys, [(100, ⟨impl_ConfigFault.sg, impl_ConfigFault.F⟩), (101, ⟨impl_isAddr.sg, impl_isAddr.F⟩), (102, ⟨impl_RulesFault.sg, impl_RulesFault.F⟩)], eqs⟩
def impl_SettingsFault.F (k : Nat) (x : (((Int × (Int × (Int × Unit))) × (Int × ((List ((Int × (Int × Unit)) × (Int × (Int × (Int × (Bool × (Int × (Int × Unit)))))))) × ((List ((Int × (Int × Unit)) × (Int × (Int × (Int × (Bool × (Int × (Int × Unit)))))))) × Unit)))) × Unit)) : Option ((Int × Unit) × Unit) :=
  (impl_ConfigFault.F k (x.1.1, ())).bind fun y0 =>
  bif (y0.1.1 != (0 : Int)) then
  (some y0)
  else (impl_isAddr.F k (x.1.2.1, ())).bind fun y1 =>
    bif (!y1.1.1) then
    (some (((3 : Int), ()), ()))
    else (impl_RulesFault.F k (x.1.2.2.1, ())).bind fun y2 =>
      bif (y2.1.1 != (0 : Int)) then
      (some y2)
      else (impl_RulesFault.F k x.1.2.2.2).bind fun y3 =>
        some y3
def impl_SettingsFault.hd : Hints := ⟨[], [], [2], [0, 1, 3, 4], []⟩
def impl_SettingsFault.lps (k : Nat) : List (Nat × Lp impl_SettingsFault.sg.Out) := []
theorem impl_SettingsFault.loops (k : Nat) : LoopsOk impl_SettingsFault.E k impl_SettingsFault.hd (impl_SettingsFault.lps k) (loopsOf (Go.Proofs.Tryz.f61.body.getD .skip)) := trivial
theorem impl_SettingsFault.den (k : Nat) (x : Sig.In impl_SettingsFault.sg.ps) : denFn impl_SettingsFault.E k Go.Proofs.Tryz.f61 impl_SettingsFault.sg impl_SettingsFault.hd (runL k impl_SettingsFault.hd (impl_SettingsFault.lps k)) x = impl_SettingsFault.F k x := by kernel_rfl
theorem impl_SettingsFault.ok (k : Nat) : Contract Tryz.prog 61 impl_SettingsFault.sg (impl_SettingsFault.F k) := ok_of (E := impl_SettingsFault.E) (tysOk _ _) (eqsOk _) ⟨impl_ConfigFault.ok k, impl_isAddr.ok k, impl_RulesFault.ok k, trivial⟩ Tryz.func61 rfl (by kernel_rfl) (impl_SettingsFault.loops k) (impl_SettingsFault.den k)
def impl_isNode.sg : Sig := ⟨[.b (.int .i64)], [(.bool, .rd)]⟩
def impl_isNode.E : Env := ⟨tys, bys, [(103, ⟨impl_in.sg, impl_in.F⟩)], eqs⟩
def impl_isNode.F (k : Nat) (x : (Int × Unit)) : Option ((Bool × Unit) × Unit) :=
  (impl_in.F k (x.1, (0 : Int), (1 : Int), ())).bind fun y0 =>
  some y0
def impl_isNode.hd : Hints := ⟨[], [], [2], [0], []⟩
def impl_isNode.lps (k : Nat) : List (Nat × Lp impl_isNode.sg.Out) := []
theorem impl_isNode.loops (k : Nat) : LoopsOk impl_isNode.E k impl_isNode.hd (impl_isNode.lps k) (loopsOf (Go.Proofs.Tryz.f64.body.getD .skip)) := trivial
theorem impl_isNode.den (k : Nat) (x : Sig.In impl_isNode.sg.ps) : denFn impl_isNode.E k Go.Proofs.Tryz.f64 impl_isNode.sg impl_isNode.hd (runL k impl_isNode.hd (impl_isNode.lps k)) x = impl_isNode.F k x := by kernel_rfl
theorem impl_isNode.ok (k : Nat) : Contract Tryz.prog 64 impl_isNode.sg (impl_isNode.F k) := ok_of (E := impl_isNode.E) (tysOk _ _) (eqsOk _) ⟨impl_in.ok k, trivial⟩ Tryz.func64 rfl (by kernel_rfl) (impl_isNode.loops k) (impl_isNode.den k)
def impl_isEpoch.sg : Sig := ⟨[.b (.int .i64)], [(.bool, .rd)]⟩
def impl_isEpoch.E : Env := ⟨tys, bys, [(103, ⟨impl_in.sg, impl_in.F⟩)], eqs⟩
def impl_isEpoch.F (k : Nat) (x : (Int × Unit)) : Option ((Bool × Unit) × Unit) :=
  (impl_in.F k (x.1, (1 : Int), (1000 : Int), ())).bind fun y0 =>
  some y0
def impl_isEpoch.hd : Hints := ⟨[], [], [2], [0], []⟩
def impl_isEpoch.lps (k : Nat) : List (Nat × Lp impl_isEpoch.sg.Out) := []
theorem impl_isEpoch.loops (k : Nat) : LoopsOk impl_isEpoch.E k impl_isEpoch.hd (impl_isEpoch.lps k) (loopsOf (Go.Proofs.Tryz.f105.body.getD .skip)) := trivial
theorem impl_isEpoch.den (k : Nat) (x : Sig.In impl_isEpoch.sg.ps) : denFn impl_isEpoch.E k Go.Proofs.Tryz.f105 impl_isEpoch.sg impl_isEpoch.hd (runL k impl_isEpoch.hd (impl_isEpoch.lps k)) x = impl_isEpoch.F k x := by kernel_rfl
theorem impl_isEpoch.ok (k : Nat) : Contract Tryz.prog 105 impl_isEpoch.sg (impl_isEpoch.F k) := ok_of (E := impl_isEpoch.E) (tysOk _ _) (eqsOk _) ⟨impl_in.ok k, trivial⟩ Tryz.func105 rfl (by kernel_rfl) (impl_isEpoch.loops k) (impl_isEpoch.den k)
def impl_isPeer.sg : Sig := ⟨[.b (.int .i64)], [(.bool, .rd)]⟩
def impl_isPeer.E : Env := ⟨tys, bys, [(103, ⟨impl_in.sg, impl_in.F⟩)], eqs⟩
def impl_isPeer.F (k : Nat) (x : (Int × Unit)) : Option ((Bool × Unit) × Unit) :=
  (impl_in.F k (x.1, (0 : Int), (2 : Int), ())).bind fun y0 =>
  some y0
def impl_isPeer.hd : Hints := ⟨[], [], [2], [0], []⟩
def impl_isPeer.lps (k : Nat) : List (Nat × Lp impl_isPeer.sg.Out) := []
theorem impl_isPeer.loops (k : Nat) : LoopsOk impl_isPeer.E k impl_isPeer.hd (impl_isPeer.lps k) (loopsOf (Go.Proofs.Tryz.f84.body.getD .skip)) := trivial
theorem impl_isPeer.den (k : Nat) (x : Sig.In impl_isPeer.sg.ps) : denFn impl_isPeer.E k Go.Proofs.Tryz.f84 impl_isPeer.sg impl_isPeer.hd (runL k impl_isPeer.hd (impl_isPeer.lps k)) x = impl_isPeer.F k x := by kernel_rfl
theorem impl_isPeer.ok (k : Nat) : Contract Tryz.prog 84 impl_isPeer.sg (impl_isPeer.F k) := ok_of (E := impl_isPeer.E) (tysOk _ _) (eqsOk _) ⟨impl_in.ok k, trivial⟩ Tryz.func84 rfl (by kernel_rfl) (impl_isPeer.loops k) (impl_isPeer.den k)
def impl_EventFault.sg : Sig := ⟨[.b kEvent], [((.int .i64), .rd)]⟩
def impl_EventFault.E : Env := ⟨tys, bys, [(84, ⟨impl_isPeer.sg, impl_isPeer.F⟩), (103, ⟨impl_in.sg, impl_in.F⟩)], eqs⟩
def impl_EventFault.F (k : Nat) (x : ((Int × (Int × ((List Int) × Unit))) × Unit)) : Option ((Int × Unit) × Unit) :=
  (impl_in.F k (x.1.1, (1 : Int), (4 : Int), ())).bind fun y0 =>
  bif (!y0.1.1) then
  (some (((1 : Int), ()), ()))
  else (impl_isPeer.F k (x.1.2.1, ())).bind fun y1 =>
    bif (!y1.1.1) then
    (some (((3 : Int), ()), ()))
    else bif (x.1.1 == (3 : Int)) then
      (bif (x.1.2.1 != (0 : Int)) then
        (some (((3 : Int), ()), ()))
        else bif (!((x.1.1 == (2 : Int)) == (decide (((((List.length x.1.2.2.1) : Nat) : Int) > (0 : Int)))))) then
          (some (((1 : Int), ()), ()))
          else bif (decide (((((List.length x.1.2.2.1) : Nat) : Int) > (60 : Int)))) then
            (some (((2 : Int), ()), ()))
            else some (((0 : Int), ()), ()))
      else bif (!((x.1.1 == (2 : Int)) == (decide (((((List.length x.1.2.2.1) : Nat) : Int) > (0 : Int)))))) then
        (some (((1 : Int), ()), ()))
        else bif (decide (((((List.length x.1.2.2.1) : Nat) : Int) > (60 : Int)))) then
          (some (((2 : Int), ()), ()))
          else some (((0 : Int), ()), ())
def impl_EventFault.hd : Hints := ⟨[], [(0, [])], [2], [0, 1], []⟩
def impl_EventFault.lps (k : Nat) : List (Nat × Lp impl_EventFault.sg.Out) := []
theorem impl_EventFault.loops (k : Nat) : LoopsOk impl_EventFault.E k impl_EventFault.hd (impl_EventFault.lps k) (loopsOf (Go.Proofs.Tryz.f107.body.getD .skip)) := trivial
theorem impl_EventFault.den (k : Nat) (x : Sig.In impl_EventFault.sg.ps) : denFn impl_EventFault.E k Go.Proofs.Tryz.f107 impl_EventFault.sg impl_EventFault.hd (runL k impl_EventFault.hd (impl_EventFault.lps k)) x = impl_EventFault.F k x := by kernel_rfl
theorem impl_EventFault.ok (k : Nat) : Contract Tryz.prog 107 impl_EventFault.sg (impl_EventFault.F k) := ok_of (E := impl_EventFault.E) (tysOk _ _) (eqsOk _) ⟨impl_isPeer.ok k, impl_in.ok k, trivial⟩ Tryz.func107 rfl (by kernel_rfl) (impl_EventFault.loops k) (impl_EventFault.den k)
def impl_EntryFault.sg : Sig := ⟨[.b kEntry], [((.int .i64), .rd)]⟩
def impl_EntryFault.E : Env := ⟨tys, bys, [(105, ⟨impl_isEpoch.sg, impl_isEpoch.F⟩), (107, ⟨impl_EventFault.sg, impl_EventFault.F⟩)], eqs⟩
def impl_EntryFault.F (k : Nat) (x : ((Int × ((Int × (Int × ((List Int) × Unit))) × Unit)) × Unit)) : Option ((Int × Unit) × Unit) :=
  (impl_isEpoch.F k (x.1.1, ())).bind fun y0 =>
  bif (!y0.1.1) then
  (some (((3 : Int), ()), ()))
  else (impl_EventFault.F k x.1.2).bind fun y1 =>
    some y1
def impl_EntryFault.hd : Hints := ⟨[], [], [2], [0, 1], []⟩
def impl_EntryFault.lps (k : Nat) : List (Nat × Lp impl_EntryFault.sg.Out) := []
theorem impl_EntryFault.loops (k : Nat) : LoopsOk impl_EntryFault.E k impl_EntryFault.hd (impl_EntryFault.lps k) (loopsOf (Go.Proofs.Tryz.f66.body.getD .skip)) := trivial
theorem impl_EntryFault.den (k : Nat) (x : Sig.In impl_EntryFault.sg.ps) : denFn impl_EntryFault.E k Go.Proofs.Tryz.f66 impl_EntryFault.sg impl_EntryFault.hd (runL k impl_EntryFault.hd (impl_EntryFault.lps k)) x = impl_EntryFault.F k x := by kernel_rfl
theorem impl_EntryFault.ok (k : Nat) : Contract Tryz.prog 66 impl_EntryFault.sg (impl_EntryFault.F k) := ok_of (E := impl_EntryFault.E) (tysOk _ _) (eqsOk _) ⟨impl_isEpoch.ok k, impl_EventFault.ok k, trivial⟩ Tryz.func66 rfl (by kernel_rfl) (impl_EntryFault.loops k) (impl_EntryFault.den k)
def impl_size_impl_Entry.sg : Sig := ⟨[.b (.sl kEntry)], [((.int .i64), .rd)]⟩
def impl_size_impl_Entry.E : Env := ⟨tys, bys, [], eqs⟩
def impl_size_impl_Entry.F (k : Nat) (x : ((List (Int × ((Int × (Int × ((List Int) × Unit))) × Unit))) × Unit)) : Option ((Int × Unit) × Unit) :=
  some (((((List.length x.1) : Nat) : Int), ()), ())
def impl_size_impl_Entry.hd : Hints := ⟨[], [], [2], [0], []⟩
def impl_size_impl_Entry.lps (k : Nat) : List (Nat × Lp impl_size_impl_Entry.sg.Out) := []
theorem impl_size_impl_Entry.loops (k : Nat) : LoopsOk impl_size_impl_Entry.E k impl_size_impl_Entry.hd (impl_size_impl_Entry.lps k) (loopsOf (Go.Proofs.Tryz.f78.body.getD .skip)) := trivial
theorem impl_size_impl_Entry.den (k : Nat) (x : Sig.In impl_size_impl_Entry.sg.ps) : denFn impl_size_impl_Entry.E k Go.Proofs.Tryz.f78 impl_size_impl_Entry.sg impl_size_impl_Entry.hd (runL k impl_size_impl_Entry.hd (impl_size_impl_Entry.lps k)) x = impl_size_impl_Entry.F k x := by kernel_rfl
theorem impl_size_impl_Entry.ok (k : Nat) : Contract Tryz.prog 78 impl_size_impl_Entry.sg (impl_size_impl_Entry.F k) := ok_of (E := impl_size_impl_Entry.E) (tysOk _ _) (eqsOk _) trivial Tryz.func78 rfl (by kernel_rfl) (impl_size_impl_Entry.loops k) (impl_size_impl_Entry.den k)
def impl_NodeFault.sg : Sig := ⟨[.b kNode], [((.int .i64), .rd)]⟩
def impl_NodeFault.E : Env := ⟨tys, bys, [(64, ⟨impl_isNode.sg, impl_isNode.F⟩), (66, ⟨impl_EntryFault.sg, impl_EntryFault.F⟩), (78, ⟨impl_size_impl_Entry.sg, impl_size_impl_Entry.F⟩), (103, ⟨impl_in.sg, impl_in.F⟩)], eqs⟩
def impl_NodeFault.l6 {ρ : Type} (k : Nat) (c0 : (Int × Unit) → Option ρ) (c1 : (Int × (Bool × (Int × (Int × (List (Int × ((Int × (Int × ((List Int) × Unit))) × Unit)) × (Int × (Int × (Int × (Int × Unit))))))))) → Option ρ) : Nat → List (Int × ((Int × (Int × ((List Int) × Unit))) × Unit)) → Int → Int → Int → Bool → Int → Int → List (Int × ((Int × (Int × ((List Int) × Unit))) × Unit)) → Int → Int → Int → Int → Option ρ
  | 0 => fun _ _ _ _ _ _ _ _ _ _ _ _ => none
  | n + 1 => fun x0 x1 x2 x3 x4 x5 x6 x7 x8 x9 x10 x11 => 
    bif (decide ((x2 < x1))) then
    (bif (Go.Dn.inB x2 (((List.length x0) : Nat) : Int)) then
      (Go.Dn.share (List.getD x0 (Int.toNat x2) ((0 : Int), (((0 : Int), ((0 : Int), (([] : List Int), ()))), ()))) fun s3 =>
        (impl_EntryFault.F k (s3, ())).bind fun y4 =>
        bif (y4.1.1 != (0 : Int)) then
        (c0 (y4.1.1, ()))
        else bif (decide ((s3.1 > x6))) then
          (c0 ((1 : Int), ()))
          else bif (decide ((x2 > (0 : Int)))) then
            (bif (Go.Dn.inB (IntKind.wrap .i64 (x2 - (1 : Int))) (((List.length x7) : Nat) : Int)) then
              (Go.Dn.share (List.getD x7 (Int.toNat (IntKind.wrap .i64 (x2 - (1 : Int)))) ((0 : Int), (((0 : Int), ((0 : Int), (([] : List Int), ()))), ()))) fun s5 =>
                bif (decide ((s3.1 < s5.1))) then
                (c0 ((1 : Int), ()))
                else impl_NodeFault.l6 k c0 c1 n x0 x1 (IntKind.wrap .i64 (x2 + (1 : Int))) x3 x4 x5 x6 x7 x8 x9 x10 x11)
              else none)
            else impl_NodeFault.l6 k c0 c1 n x0 x1 (IntKind.wrap .i64 (x2 + (1 : Int))) x3 x4 x5 x6 x7 x8 x9 x10 x11)
      else none)
    else c1 (x3, x4, x5, x6, x7, x8, x9, x10, x11, ())
def impl_NodeFault.F (k : Nat) (x : ((Int × (Bool × (Int × (Int × ((List (Int × ((Int × (Int × ((List Int) × Unit))) × Unit))) × (Int × (Int × (Int × (Int × Unit))))))))) × Unit)) : Option ((Int × Unit) × Unit) :=
  (impl_isNode.F k (x.1.1, ())).bind fun y0 =>
  bif (!y0.1.1) then
  (some (((3 : Int), ()), ()))
  else (impl_in.F k (x.1.2.2.1, (0 : Int), (1 : Int), ())).bind fun y1 =>
    bif (!y1.1.1) then
    (some (((3 : Int), ()), ()))
    else (impl_in.F k (x.1.2.2.2.1, (0 : Int), (1000 : Int), ())).bind fun y2 =>
      bif (!y2.1.1) then
      (some (((3 : Int), ()), ()))
      else bif (decide (((((List.length x.1.2.2.2.2.1) : Nat) : Int) > (100 : Int)))) then
        (some (((2 : Int), ()), ()))
        else impl_NodeFault.l6 k (fun e6 =>
            some (e6, ())) (fun e7 =>
            (impl_size_impl_Entry.F k (e7.2.2.2.2.1, ())).bind fun y8 =>
            (impl_in.F k (e7.2.2.2.2.2.1, (0 : Int), y8.1)).bind fun y9 =>
            bif (!y9.1.1) then
            (some (((3 : Int), ()), ()))
            else (impl_in.F k (e7.2.2.2.2.2.2.1, (0 : Int), y8.1)).bind fun y10 =>
              bif (!y10.1.1) then
              (some (((3 : Int), ()), ()))
              else (impl_in.F k (e7.2.2.2.2.2.2.2.1, (0 : Int), y8.1)).bind fun y11 =>
                bif (!y11.1.1) then
                (some (((3 : Int), ()), ()))
                else (impl_in.F k (e7.2.2.2.2.2.2.2.2.1, (0 : Int), e7.2.2.2.2.2.1, ())).bind fun y12 =>
                  bif (!y12.1.1) then
                  (some (((3 : Int), ()), ()))
                  else bif (e7.2.2.1 == (1 : Int)) then
                    (bif (!e7.2.1) then
                      (some (((1 : Int), ()), ()))
                      else bif (e7.2.2.2.1 == (0 : Int)) then
                        (some (((1 : Int), ()), ()))
                        else bif (e7.2.2.2.2.2.2.1 != (0 : Int)) then
                          (some (((1 : Int), ()), ()))
                          else bif (!(e7.2.2.1 == (1 : Int))) then
                            (bif (e7.2.2.2.2.2.2.2.1 != (0 : Int)) then
                              (some (((1 : Int), ()), ()))
                              else bif (!e7.2.1) then
                                (bif (e7.2.2.2.2.2.1 != y8.1.1) then
                                  (some (((1 : Int), ()), ()))
                                  else bif (e7.2.2.2.2.2.2.1 != (0 : Int)) then
                                    (some (((1 : Int), ()), ()))
                                    else bif (e7.2.2.2.2.2.2.2.2.1 != (0 : Int)) then
                                      (some (((1 : Int), ()), ()))
                                      else some (((0 : Int), ()), ()))
                                else some (((0 : Int), ()), ()))
                            else bif (!e7.2.1) then
                              (bif (e7.2.2.2.2.2.1 != y8.1.1) then
                                (some (((1 : Int), ()), ()))
                                else bif (e7.2.2.2.2.2.2.1 != (0 : Int)) then
                                  (some (((1 : Int), ()), ()))
                                  else bif (e7.2.2.2.2.2.2.2.2.1 != (0 : Int)) then
                                    (some (((1 : Int), ()), ()))
                                    else some (((0 : Int), ()), ()))
                              else some (((0 : Int), ()), ()))
                    else bif (!(e7.2.2.1 == (1 : Int))) then
                      (bif (e7.2.2.2.2.2.2.2.1 != (0 : Int)) then
                        (some (((1 : Int), ()), ()))
                        else bif (!e7.2.1) then
                          (bif (e7.2.2.2.2.2.1 != y8.1.1) then
                            (some (((1 : Int), ()), ()))
                            else bif (e7.2.2.2.2.2.2.1 != (0 : Int)) then
                              (some (((1 : Int), ()), ()))
                              else bif (e7.2.2.2.2.2.2.2.2.1 != (0 : Int)) then
                                (some (((1 : Int), ()), ()))
                                else some (((0 : Int), ()), ()))
                          else some (((0 : Int), ()), ()))
                      else bif (!e7.2.1) then
                        (bif (e7.2.2.2.2.2.1 != y8.1.1) then
                          (some (((1 : Int), ()), ()))
                          else bif (e7.2.2.2.2.2.2.1 != (0 : Int)) then
                            (some (((1 : Int), ()), ()))
                            else bif (e7.2.2.2.2.2.2.2.2.1 != (0 : Int)) then
                              (some (((1 : Int), ()), ()))
                              else some (((0 : Int), ()), ()))
                        else some (((0 : Int), ()), ())) k x.1.2.2.2.2.1 (((List.length x.1.2.2.2.2.1) : Nat) : Int) (0 : Int) x.1.1 x.1.2.1 x.1.2.2.1 x.1.2.2.2.1 x.1.2.2.2.2.1 x.1.2.2.2.2.2.1 x.1.2.2.2.2.2.2.1 x.1.2.2.2.2.2.2.2.1 x.1.2.2.2.2.2.2.2.2.1
def impl_NodeFault.hd : Hints := ⟨[(6, ⟨[1, 31, 32, 33], []⟩)], [(0, [1]), (1, [1]), (2, [1, 31, 32, 33]), (3, [])], [2], [0, 1, 3, 4, 5, 6, 7, 31, 32, 33], [(11, [0, 1, 0, 4, 15, 31, 63, 127, 255, 511, 1023, 511, 2559, 511, 8703, 31231, 63999, 129535, 262143, 524287, 1048575])]⟩
def impl_NodeFault.lps (k : Nat) : List (Nat × Lp impl_NodeFault.sg.Out) := [(6, ⟨[.l kEntry, .i, .i, .i, .b, .i, .i, .l kEntry, .i, .i, .i, .i], fun x => (fun x0 x1 x2 x3 x4 x5 x6 x7 x8 x9 x10 x11 => ⟨[(1, .v false [.box 0 0]), (31, .v false [.fz kEntry x0]), (32, .v false [.int .i64 x1]), (33, .v false [.int .i64 x2])], [(0, .box [.int .i64 x3, .bool x4, .int .i64 x5, .int .i64 x6, .fz kEntry x7, .int .i64 x8, .int .i64 x9, .int .i64 x10, .int .i64 x11])], []⟩) x.1 x.2.1 x.2.2.1 x.2.2.2.1 x.2.2.2.2.1 x.2.2.2.2.2.1 x.2.2.2.2.2.2.1 x.2.2.2.2.2.2.2.1 x.2.2.2.2.2.2.2.2.1 x.2.2.2.2.2.2.2.2.2.1 x.2.2.2.2.2.2.2.2.2.2.1 x.2.2.2.2.2.2.2.2.2.2.2.1, fun C n x => impl_NodeFault.l6 k (fun y => C .ret ((fun y0 => ⟨[(2, .v false [.int .i64 y0])], [], []⟩) y.1)) (fun y => C (.exit 1) ((fun y0 y1 y2 y3 y4 y5 y6 y7 y8 => ⟨[(1, .v false [.box 0 0])], [(0, .box [.int .i64 y0, .bool y1, .int .i64 y2, .int .i64 y3, .fz kEntry y4, .int .i64 y5, .int .i64 y6, .int .i64 y7, .int .i64 y8])], []⟩) y.1 y.2.1 y.2.2.1 y.2.2.2.1 y.2.2.2.2.1 y.2.2.2.2.2.1 y.2.2.2.2.2.2.1 y.2.2.2.2.2.2.2.1 y.2.2.2.2.2.2.2.2.1)) n x.1 x.2.1 x.2.2.1 x.2.2.2.1 x.2.2.2.2.1 x.2.2.2.2.2.1 x.2.2.2.2.2.2.1 x.2.2.2.2.2.2.2.1 x.2.2.2.2.2.2.2.2.1 x.2.2.2.2.2.2.2.2.2.1 x.2.2.2.2.2.2.2.2.2.2.1 x.2.2.2.2.2.2.2.2.2.2.2.1⟩)]
theorem impl_NodeFault.loops (k : Nat) : LoopsOk impl_NodeFault.E k impl_NodeFault.hd (impl_NodeFault.lps k) (loopsOf (Go.Proofs.Tryz.f62.body.getD .skip)) := ⟨⟨fun _ _ => rfl, fun _ _ _ => by kernel_rfl, fun _ => ⟨rfl, rfl⟩⟩, trivial⟩
theorem impl_NodeFault.den (k : Nat) (x : Sig.In impl_NodeFault.sg.ps) : denFn impl_NodeFault.E k Go.Proofs.Tryz.f62 impl_NodeFault.sg impl_NodeFault.hd (runL k impl_NodeFault.hd (impl_NodeFault.lps k)) x = impl_NodeFault.F k x := by kernel_rfl
theorem impl_NodeFault.ok (k : Nat) : Contract Tryz.prog 62 impl_NodeFault.sg (impl_NodeFault.F k) := ok_of (E := impl_NodeFault.E) (tysOk _ _) (eqsOk _) ⟨impl_isNode.ok k, impl_EntryFault.ok k, impl_size_impl_Entry.ok k, impl_in.ok k, trivial⟩ Tryz.func62 rfl (by kernel_rfl) (impl_NodeFault.loops k) (impl_NodeFault.den k)
def impl_size_byte.sg : Sig := ⟨[.b (.sl (.int .u8))], [((.int .i64), .rd)]⟩
def impl_size_byte.E : Env := ⟨tys, bys, [], eqs⟩
def impl_size_byte.F (k : Nat) (x : ((List Int) × Unit)) : Option ((Int × Unit) × Unit) :=
  some (((((List.length x.1) : Nat) : Int), ()), ())
def impl_size_byte.hd : Hints := ⟨[], [], [2], [0], []⟩
def impl_size_byte.lps (k : Nat) : List (Nat × Lp impl_size_byte.sg.Out) := []
theorem impl_size_byte.loops (k : Nat) : LoopsOk impl_size_byte.E k impl_size_byte.hd (impl_size_byte.lps k) (loopsOf (Go.Proofs.Tryz.f104.body.getD .skip)) := trivial
theorem impl_size_byte.den (k : Nat) (x : Sig.In impl_size_byte.sg.ps) : denFn impl_size_byte.E k Go.Proofs.Tryz.f104 impl_size_byte.sg impl_size_byte.hd (runL k impl_size_byte.hd (impl_size_byte.lps k)) x = impl_size_byte.F k x := by kernel_rfl
theorem impl_size_byte.ok (k : Nat) : Contract Tryz.prog 104 impl_size_byte.sg (impl_size_byte.F k) := ok_of (E := impl_size_byte.E) (tysOk _ _) (eqsOk _) trivial Tryz.func104 rfl (by kernel_rfl) (impl_size_byte.loops k) (impl_size_byte.den k)
def impl_WireFault.sg : Sig := ⟨[.b kWire], [((.int .i64), .rd)]⟩
def impl_WireFault.E : Env := ⟨tys, bys, [(103, ⟨impl_in.sg, impl_in.F⟩), (104, ⟨impl_size_byte.sg, impl_size_byte.F⟩)], eqs⟩
def impl_WireFault.F (k : Nat) (x : ((Int × ((List Int) × (Int × ((List Int) × Unit)))) × Unit)) : Option ((Int × Unit) × Unit) :=
  (impl_in.F k (x.1.1, (0 : Int), (1000 : Int), ())).bind fun y0 =>
  bif (!y0.1.1) then
  (some (((3 : Int), ()), ()))
  else bif (decide (((((List.length x.1.2.1) : Nat) : Int) > (2000 : Int)))) then
    (some (((2 : Int), ()), ()))
    else bif (decide (((((List.length x.1.2.2.2.1) : Nat) : Int) > (2000 : Int)))) then
      (some (((2 : Int), ()), ()))
      else (impl_size_byte.F k (x.1.2.1, ())).bind fun y1 =>
        (impl_in.F k (x.1.2.2.1, (0 : Int), y1.1)).bind fun y2 =>
        bif (!y2.1.1) then
        (some (((3 : Int), ()), ()))
        else some (((0 : Int), ()), ())
def impl_WireFault.hd : Hints := ⟨[], [(0, [])], [2], [0, 1], [(5, [0, 1, 0, 4, 12, 31, 63, 127])]⟩
def impl_WireFault.lps (k : Nat) : List (Nat × Lp impl_WireFault.sg.Out) := []
theorem impl_WireFault.loops (k : Nat) : LoopsOk impl_WireFault.E k impl_WireFault.hd (impl_WireFault.lps k) (loopsOf (Go.Proofs.Tryz.f63.body.getD .skip)) := trivial
theorem impl_WireFault.den (k : Nat) (x : Sig.In impl_WireFault.sg.ps) : denFn impl_WireFault.E k Go.Proofs.Tryz.f63 impl_WireFault.sg impl_WireFault.hd (runL k impl_WireFault.hd (impl_WireFault.lps k)) x = impl_WireFault.F k x := by kernel_rfl
theorem impl_WireFault.ok (k : Nat) : Contract Tryz.prog 63 impl_WireFault.sg (impl_WireFault.F k) := ok_of (E := impl_WireFault.E) (tysOk _ _) (eqsOk _) ⟨impl_in.ok k, impl_size_byte.ok k, trivial⟩ Tryz.func63 rfl (by kernel_rfl) (impl_WireFault.loops k) (impl_WireFault.den k)
def impl_Entry_isZero.sg : Sig := ⟨[.b kEntry], [(.bool, .rd)]⟩
def impl_Entry_isZero.E : Env := ⟨tys, bys, [], eqs⟩
def impl_Entry_isZero.F (k : Nat) (x : ((Int × ((Int × (Int × ((List Int) × Unit))) × Unit)) × Unit)) : Option ((Bool × Unit) × Unit) :=
  bif (x.1.1 == (0 : Int)) then
  (bif (x.1.2.1.1 == (0 : Int)) then
    (bif (x.1.2.1.2.1 == (0 : Int)) then
      (some ((((((List.length x.1.2.1.2.2.1) : Nat) : Int) == (0 : Int)), ()), ()))
      else some ((false, ()), ()))
    else some ((false, ()), ()))
  else some ((false, ()), ())
def impl_Entry_isZero.hd : Hints := ⟨[], [], [2], [0, 1], []⟩
def impl_Entry_isZero.lps (k : Nat) : List (Nat × Lp impl_Entry_isZero.sg.Out) := []
theorem impl_Entry_isZero.loops (k : Nat) : LoopsOk impl_Entry_isZero.E k impl_Entry_isZero.hd (impl_Entry_isZero.lps k) (loopsOf (Go.Proofs.Tryz.f106.body.getD .skip)) := trivial
theorem impl_Entry_isZero.den (k : Nat) (x : Sig.In impl_Entry_isZero.sg.ps) : denFn impl_Entry_isZero.E k Go.Proofs.Tryz.f106 impl_Entry_isZero.sg impl_Entry_isZero.hd (runL k impl_Entry_isZero.hd (impl_Entry_isZero.lps k)) x = impl_Entry_isZero.F k x := by kernel_rfl
theorem impl_Entry_isZero.ok (k : Nat) : Contract Tryz.prog 106 impl_Entry_isZero.sg (impl_Entry_isZero.F k) := ok_of (E := impl_Entry_isZero.E) (tysOk _ _) (eqsOk _) trivial Tryz.func106 rfl (by kernel_rfl) (impl_Entry_isZero.loops k) (impl_Entry_isZero.den k)
def impl_MailFault.sg : Sig := ⟨[.b kNode, .b kMail], [((.int .i64), .rd)]⟩
def impl_MailFault.E : Env := ⟨tys, bys, [(62, ⟨impl_NodeFault.sg, impl_NodeFault.F⟩), (66, ⟨impl_EntryFault.sg, impl_EntryFault.F⟩), (103, ⟨impl_in.sg, impl_in.F⟩), (105, ⟨impl_isEpoch.sg, impl_isEpoch.F⟩), (106, ⟨impl_Entry_isZero.sg, impl_Entry_isZero.F⟩)], eqs⟩
def impl_MailFault.F (k : Nat) (x : ((Int × (Bool × (Int × (Int × ((List (Int × ((Int × (Int × ((List Int) × Unit))) × Unit))) × (Int × (Int × (Int × (Int × Unit))))))))) × ((Int × (Int × (Int × (Int × (Int × (Bool × ((Int × ((Int × (Int × ((List Int) × Unit))) × Unit)) × Unit))))))) × Unit))) : Option ((Int × Unit) × Unit) :=
  (impl_NodeFault.F k (x.1, ())).bind fun y0 =>
  bif (y0.1.1 != (0 : Int)) then
  (some y0)
  else bif (x.2.1.1 != (1 : Int)) then
    (bif (x.2.1.1 != (2 : Int)) then
      (some (((1 : Int), ()), ()))
      else bif (x.2.1.2.1 != x.1.1) then
        (some (((1 : Int), ()), ()))
        else (impl_isEpoch.F k (x.2.1.2.2.1, ())).bind fun y1 =>
          bif (!y1.1.1) then
          (some (((3 : Int), ()), ()))
          else (impl_in.F k (x.2.1.2.2.2.1, (0 : Int), (100 : Int), ())).bind fun y2 =>
            bif (!y2.1.1) then
            (some (((3 : Int), ()), ()))
            else (impl_in.F k (x.2.1.2.2.2.2.1, (0 : Int), (1000 : Int), ())).bind fun y3 =>
              bif (!y3.1.1) then
              (some (((3 : Int), ()), ()))
              else bif (x.2.1.1 == (2 : Int)) then
                (bif x.2.1.2.2.2.2.2.1 then
                  (some (((1 : Int), ()), ()))
                  else bif (x.2.1.2.2.2.2.1 != (0 : Int)) then
                    (some (((1 : Int), ()), ()))
                    else bif (x.2.1.1 == (1 : Int)) then
                      (bif (!((x.2.1.2.2.2.1 == (0 : Int)) == (x.2.1.2.2.2.2.1 == (0 : Int)))) then
                        (some (((1 : Int), ()), ()))
                        else bif (!x.2.1.2.2.2.2.2.1) then
                          ((impl_Entry_isZero.F k x.2.1.2.2.2.2.2.2).bind fun y4 =>
                            bif (!y4.1.1) then
                            (some (((1 : Int), ()), ()))
                            else bif (decide ((x.2.1.2.2.2.2.1 > x.2.1.2.2.1))) then
                              (some (((1 : Int), ()), ()))
                              else bif (!x.2.1.2.2.2.2.2.1) then
                                (some (((0 : Int), ()), ()))
                                else (impl_EntryFault.F k x.2.1.2.2.2.2.2.2).bind fun y5 =>
                                  bif (y5.1.1 != (0 : Int)) then
                                  (some y5)
                                  else bif (decide ((x.2.1.2.2.2.2.2.2.1.1 > x.2.1.2.2.1))) then
                                    (some (((1 : Int), ()), ()))
                                    else bif (decide ((x.2.1.2.2.2.2.2.2.1.1 < x.2.1.2.2.2.2.1))) then
                                      (some (((1 : Int), ()), ()))
                                      else some (((0 : Int), ()), ()))
                          else bif (decide ((x.2.1.2.2.2.2.1 > x.2.1.2.2.1))) then
                            (some (((1 : Int), ()), ()))
                            else bif (!x.2.1.2.2.2.2.2.1) then
                              (some (((0 : Int), ()), ()))
                              else (impl_EntryFault.F k x.2.1.2.2.2.2.2.2).bind fun y6 =>
                                bif (y6.1.1 != (0 : Int)) then
                                (some y6)
                                else bif (decide ((x.2.1.2.2.2.2.2.2.1.1 > x.2.1.2.2.1))) then
                                  (some (((1 : Int), ()), ()))
                                  else bif (decide ((x.2.1.2.2.2.2.2.2.1.1 < x.2.1.2.2.2.2.1))) then
                                    (some (((1 : Int), ()), ()))
                                    else some (((0 : Int), ()), ()))
                      else bif (!x.2.1.2.2.2.2.2.1) then
                        ((impl_Entry_isZero.F k x.2.1.2.2.2.2.2.2).bind fun y7 =>
                          bif (!y7.1.1) then
                          (some (((1 : Int), ()), ()))
                          else bif (decide ((x.2.1.2.2.2.2.1 > x.2.1.2.2.1))) then
                            (some (((1 : Int), ()), ()))
                            else bif (!x.2.1.2.2.2.2.2.1) then
                              (some (((0 : Int), ()), ()))
                              else (impl_EntryFault.F k x.2.1.2.2.2.2.2.2).bind fun y8 =>
                                bif (y8.1.1 != (0 : Int)) then
                                (some y8)
                                else bif (decide ((x.2.1.2.2.2.2.2.2.1.1 > x.2.1.2.2.1))) then
                                  (some (((1 : Int), ()), ()))
                                  else bif (decide ((x.2.1.2.2.2.2.2.2.1.1 < x.2.1.2.2.2.2.1))) then
                                    (some (((1 : Int), ()), ()))
                                    else some (((0 : Int), ()), ()))
                        else bif (decide ((x.2.1.2.2.2.2.1 > x.2.1.2.2.1))) then
                          (some (((1 : Int), ()), ()))
                          else bif (!x.2.1.2.2.2.2.2.1) then
                            (some (((0 : Int), ()), ()))
                            else (impl_EntryFault.F k x.2.1.2.2.2.2.2.2).bind fun y9 =>
                              bif (y9.1.1 != (0 : Int)) then
                              (some y9)
                              else bif (decide ((x.2.1.2.2.2.2.2.2.1.1 > x.2.1.2.2.1))) then
                                (some (((1 : Int), ()), ()))
                                else bif (decide ((x.2.1.2.2.2.2.2.2.1.1 < x.2.1.2.2.2.2.1))) then
                                  (some (((1 : Int), ()), ()))
                                  else some (((0 : Int), ()), ()))
                else bif (x.2.1.1 == (1 : Int)) then
                  (bif (!((x.2.1.2.2.2.1 == (0 : Int)) == (x.2.1.2.2.2.2.1 == (0 : Int)))) then
                    (some (((1 : Int), ()), ()))
                    else bif (!x.2.1.2.2.2.2.2.1) then
                      ((impl_Entry_isZero.F k x.2.1.2.2.2.2.2.2).bind fun y10 =>
                        bif (!y10.1.1) then
                        (some (((1 : Int), ()), ()))
                        else bif (decide ((x.2.1.2.2.2.2.1 > x.2.1.2.2.1))) then
                          (some (((1 : Int), ()), ()))
                          else bif (!x.2.1.2.2.2.2.2.1) then
                            (some (((0 : Int), ()), ()))
                            else (impl_EntryFault.F k x.2.1.2.2.2.2.2.2).bind fun y11 =>
                              bif (y11.1.1 != (0 : Int)) then
                              (some y11)
                              else bif (decide ((x.2.1.2.2.2.2.2.2.1.1 > x.2.1.2.2.1))) then
                                (some (((1 : Int), ()), ()))
                                else bif (decide ((x.2.1.2.2.2.2.2.2.1.1 < x.2.1.2.2.2.2.1))) then
                                  (some (((1 : Int), ()), ()))
                                  else some (((0 : Int), ()), ()))
                      else bif (decide ((x.2.1.2.2.2.2.1 > x.2.1.2.2.1))) then
                        (some (((1 : Int), ()), ()))
                        else bif (!x.2.1.2.2.2.2.2.1) then
                          (some (((0 : Int), ()), ()))
                          else (impl_EntryFault.F k x.2.1.2.2.2.2.2.2).bind fun y12 =>
                            bif (y12.1.1 != (0 : Int)) then
                            (some y12)
                            else bif (decide ((x.2.1.2.2.2.2.2.2.1.1 > x.2.1.2.2.1))) then
                              (some (((1 : Int), ()), ()))
                              else bif (decide ((x.2.1.2.2.2.2.2.2.1.1 < x.2.1.2.2.2.2.1))) then
                                (some (((1 : Int), ()), ()))
                                else some (((0 : Int), ()), ()))
                  else bif (!x.2.1.2.2.2.2.2.1) then
                    ((impl_Entry_isZero.F k x.2.1.2.2.2.2.2.2).bind fun y13 =>
                      bif (!y13.1.1) then
                      (some (((1 : Int), ()), ()))
                      else bif (decide ((x.2.1.2.2.2.2.1 > x.2.1.2.2.1))) then
                        (some (((1 : Int), ()), ()))
                        else bif (!x.2.1.2.2.2.2.2.1) then
                          (some (((0 : Int), ()), ()))
                          else (impl_EntryFault.F k x.2.1.2.2.2.2.2.2).bind fun y14 =>
                            bif (y14.1.1 != (0 : Int)) then
                            (some y14)
                            else bif (decide ((x.2.1.2.2.2.2.2.2.1.1 > x.2.1.2.2.1))) then
                              (some (((1 : Int), ()), ()))
                              else bif (decide ((x.2.1.2.2.2.2.2.2.1.1 < x.2.1.2.2.2.2.1))) then
                                (some (((1 : Int), ()), ()))
                                else some (((0 : Int), ()), ()))
                    else bif (decide ((x.2.1.2.2.2.2.1 > x.2.1.2.2.1))) then
                      (some (((1 : Int), ()), ()))
                      else bif (!x.2.1.2.2.2.2.2.1) then
                        (some (((0 : Int), ()), ()))
                        else (impl_EntryFault.F k x.2.1.2.2.2.2.2.2).bind fun y15 =>
                          bif (y15.1.1 != (0 : Int)) then
                          (some y15)
                          else bif (decide ((x.2.1.2.2.2.2.2.2.1.1 > x.2.1.2.2.1))) then
                            (some (((1 : Int), ()), ()))
                            else bif (decide ((x.2.1.2.2.2.2.2.2.1.1 < x.2.1.2.2.2.2.1))) then
                              (some (((1 : Int), ()), ()))
                              else some (((0 : Int), ()), ()))
    else bif (x.2.1.2.1 != x.1.1) then
      (some (((1 : Int), ()), ()))
      else (impl_isEpoch.F k (x.2.1.2.2.1, ())).bind fun y16 =>
        bif (!y16.1.1) then
        (some (((3 : Int), ()), ()))
        else (impl_in.F k (x.2.1.2.2.2.1, (0 : Int), (100 : Int), ())).bind fun y17 =>
          bif (!y17.1.1) then
          (some (((3 : Int), ()), ()))
          else (impl_in.F k (x.2.1.2.2.2.2.1, (0 : Int), (1000 : Int), ())).bind fun y18 =>
            bif (!y18.1.1) then
            (some (((3 : Int), ()), ()))
            else bif (x.2.1.1 == (2 : Int)) then
              (bif x.2.1.2.2.2.2.2.1 then
                (some (((1 : Int), ()), ()))
                else bif (x.2.1.2.2.2.2.1 != (0 : Int)) then
                  (some (((1 : Int), ()), ()))
                  else bif (x.2.1.1 == (1 : Int)) then
                    (bif (!((x.2.1.2.2.2.1 == (0 : Int)) == (x.2.1.2.2.2.2.1 == (0 : Int)))) then
                      (some (((1 : Int), ()), ()))
                      else bif (!x.2.1.2.2.2.2.2.1) then
                        ((impl_Entry_isZero.F k x.2.1.2.2.2.2.2.2).bind fun y19 =>
                          bif (!y19.1.1) then
                          (some (((1 : Int), ()), ()))
                          else bif (decide ((x.2.1.2.2.2.2.1 > x.2.1.2.2.1))) then
                            (some (((1 : Int), ()), ()))
                            else bif (!x.2.1.2.2.2.2.2.1) then
                              (some (((0 : Int), ()), ()))
                              else (impl_EntryFault.F k x.2.1.2.2.2.2.2.2).bind fun y20 =>
                                bif (y20.1.1 != (0 : Int)) then
                                (some y20)
                                else bif (decide ((x.2.1.2.2.2.2.2.2.1.1 > x.2.1.2.2.1))) then
                                  (some (((1 : Int), ()), ()))
                                  else bif (decide ((x.2.1.2.2.2.2.2.2.1.1 < x.2.1.2.2.2.2.1))) then
                                    (some (((1 : Int), ()), ()))
                                    else some (((0 : Int), ()), ()))
                        else bif (decide ((x.2.1.2.2.2.2.1 > x.2.1.2.2.1))) then
                          (some (((1 : Int), ()), ()))
                          else bif (!x.2.1.2.2.2.2.2.1) then
                            (some (((0 : Int), ()), ()))
                            else (impl_EntryFault.F k x.2.1.2.2.2.2.2.2).bind fun y21 =>
                              bif (y21.1.1 != (0 : Int)) then
                              (some y21)
                              else bif (decide ((x.2.1.2.2.2.2.2.2.1.1 > x.2.1.2.2.1))) then
                                (some (((1 : Int), ()), ()))
                                else bif (decide ((x.2.1.2.2.2.2.2.2.1.1 < x.2.1.2.2.2.2.1))) then
                                  (some (((1 : Int), ()), ()))
                                  else some (((0 : Int), ()), ()))
                    else bif (!x.2.1.2.2.2.2.2.1) then
                      ((impl_Entry_isZero.F k x.2.1.2.2.2.2.2.2).bind fun y22 =>
                        bif (!y22.1.1) then
                        (some (((1 : Int), ()), ()))
                        else bif (decide ((x.2.1.2.2.2.2.1 > x.2.1.2.2.1))) then
                          (some (((1 : Int), ()), ()))
                          else bif (!x.2.1.2.2.2.2.2.1) then
                            (some (((0 : Int), ()), ()))
                            else (impl_EntryFault.F k x.2.1.2.2.2.2.2.2).bind fun y23 =>
                              bif (y23.1.1 != (0 : Int)) then
                              (some y23)
                              else bif (decide ((x.2.1.2.2.2.2.2.2.1.1 > x.2.1.2.2.1))) then
                                (some (((1 : Int), ()), ()))
                                else bif (decide ((x.2.1.2.2.2.2.2.2.1.1 < x.2.1.2.2.2.2.1))) then
                                  (some (((1 : Int), ()), ()))
                                  else some (((0 : Int), ()), ()))
                      else bif (decide ((x.2.1.2.2.2.2.1 > x.2.1.2.2.1))) then
                        (some (((1 : Int), ()), ()))
                        else bif (!x.2.1.2.2.2.2.2.1) then
                          (some (((0 : Int), ()), ()))
                          else (impl_EntryFault.F k x.2.1.2.2.2.2.2.2).bind fun y24 =>
                            bif (y24.1.1 != (0 : Int)) then
                            (some y24)
                            else bif (decide ((x.2.1.2.2.2.2.2.2.1.1 > x.2.1.2.2.1))) then
                              (some (((1 : Int), ()), ()))
                              else bif (decide ((x.2.1.2.2.2.2.2.2.1.1 < x.2.1.2.2.2.2.1))) then
                                (some (((1 : Int), ()), ()))
                                else some (((0 : Int), ()), ()))
              else bif (x.2.1.1 == (1 : Int)) then
                (bif (!((x.2.1.2.2.2.1 == (0 : Int)) == (x.2.1.2.2.2.2.1 == (0 : Int)))) then
                  (some (((1 : Int), ()), ()))
                  else bif (!x.2.1.2.2.2.2.2.1) then
                    ((impl_Entry_isZero.F k x.2.1.2.2.2.2.2.2).bind fun y25 =>
                      bif (!y25.1.1) then
                      (some (((1 : Int), ()), ()))
                      else bif (decide ((x.2.1.2.2.2.2.1 > x.2.1.2.2.1))) then
                        (some (((1 : Int), ()), ()))
                        else bif (!x.2.1.2.2.2.2.2.1) then
                          (some (((0 : Int), ()), ()))
                          else (impl_EntryFault.F k x.2.1.2.2.2.2.2.2).bind fun y26 =>
                            bif (y26.1.1 != (0 : Int)) then
                            (some y26)
                            else bif (decide ((x.2.1.2.2.2.2.2.2.1.1 > x.2.1.2.2.1))) then
                              (some (((1 : Int), ()), ()))
                              else bif (decide ((x.2.1.2.2.2.2.2.2.1.1 < x.2.1.2.2.2.2.1))) then
                                (some (((1 : Int), ()), ()))
                                else some (((0 : Int), ()), ()))
                    else bif (decide ((x.2.1.2.2.2.2.1 > x.2.1.2.2.1))) then
                      (some (((1 : Int), ()), ()))
                      else bif (!x.2.1.2.2.2.2.2.1) then
                        (some (((0 : Int), ()), ()))
                        else (impl_EntryFault.F k x.2.1.2.2.2.2.2.2).bind fun y27 =>
                          bif (y27.1.1 != (0 : Int)) then
                          (some y27)
                          else bif (decide ((x.2.1.2.2.2.2.2.2.1.1 > x.2.1.2.2.1))) then
                            (some (((1 : Int), ()), ()))
                            else bif (decide ((x.2.1.2.2.2.2.2.2.1.1 < x.2.1.2.2.2.2.1))) then
                              (some (((1 : Int), ()), ()))
                              else some (((0 : Int), ()), ()))
                else bif (!x.2.1.2.2.2.2.2.1) then
                  ((impl_Entry_isZero.F k x.2.1.2.2.2.2.2.2).bind fun y28 =>
                    bif (!y28.1.1) then
                    (some (((1 : Int), ()), ()))
                    else bif (decide ((x.2.1.2.2.2.2.1 > x.2.1.2.2.1))) then
                      (some (((1 : Int), ()), ()))
                      else bif (!x.2.1.2.2.2.2.2.1) then
                        (some (((0 : Int), ()), ()))
                        else (impl_EntryFault.F k x.2.1.2.2.2.2.2.2).bind fun y29 =>
                          bif (y29.1.1 != (0 : Int)) then
                          (some y29)
                          else bif (decide ((x.2.1.2.2.2.2.2.2.1.1 > x.2.1.2.2.1))) then
                            (some (((1 : Int), ()), ()))
                            else bif (decide ((x.2.1.2.2.2.2.2.2.1.1 < x.2.1.2.2.2.2.1))) then
                              (some (((1 : Int), ()), ()))
                              else some (((0 : Int), ()), ()))
                  else bif (decide ((x.2.1.2.2.2.2.1 > x.2.1.2.2.1))) then
                    (some (((1 : Int), ()), ()))
                    else bif (!x.2.1.2.2.2.2.2.1) then
                      (some (((0 : Int), ()), ()))
                      else (impl_EntryFault.F k x.2.1.2.2.2.2.2.2).bind fun y30 =>
                        bif (y30.1.1 != (0 : Int)) then
                        (some y30)
                        else bif (decide ((x.2.1.2.2.2.2.2.2.1.1 > x.2.1.2.2.1))) then
                          (some (((1 : Int), ()), ()))
                          else bif (decide ((x.2.1.2.2.2.2.2.2.1.1 < x.2.1.2.2.2.2.1))) then
                            (some (((1 : Int), ()), ()))
                            else some (((0 : Int), ()), ())
def impl_MailFault.hd : Hints := ⟨[], [(0, [3])], [4], [0, 1, 2, 3, 5, 6], []⟩
def impl_MailFault.lps (k : Nat) : List (Nat × Lp impl_MailFault.sg.Out) := []
theorem impl_MailFault.loops (k : Nat) : LoopsOk impl_MailFault.E k impl_MailFault.hd (impl_MailFault.lps k) (loopsOf (Go.Proofs.Tryz.f65.body.getD .skip)) := trivial
theorem impl_MailFault.den (k : Nat) (x : Sig.In impl_MailFault.sg.ps) : denFn impl_MailFault.E k Go.Proofs.Tryz.f65 impl_MailFault.sg impl_MailFault.hd (runL k impl_MailFault.hd (impl_MailFault.lps k)) x = impl_MailFault.F k x := by kernel_rfl
theorem impl_MailFault.ok (k : Nat) : Contract Tryz.prog 65 impl_MailFault.sg (impl_MailFault.F k) := ok_of (E := impl_MailFault.E) (tysOk _ _) (eqsOk _) ⟨impl_NodeFault.ok k, impl_EntryFault.ok k, impl_in.ok k, impl_isEpoch.ok k, impl_Entry_isZero.ok k, trivial⟩ Tryz.func65 rfl (by kernel_rfl) (impl_MailFault.loops k) (impl_MailFault.den k)
def impl_PairFault.sg : Sig := ⟨[.b kPair], [((.int .i64), .rd)]⟩
def impl_PairFault.E : Env := ⟨tys, bys, [(61, ⟨impl_SettingsFault.sg, impl_SettingsFault.F⟩), (62, ⟨impl_NodeFault.sg, impl_NodeFault.F⟩), (63, ⟨impl_WireFault.sg, impl_WireFault.F⟩), (64, ⟨impl_isNode.sg, impl_isNode.F⟩), (65, ⟨impl_MailFault.sg, impl_MailFault.F⟩), (66, ⟨impl_EntryFault.sg, impl_EntryFault.F⟩)], eqs⟩
def impl_PairFault.l7 {ρ : Type} (k : Nat) (c0 : (Int × Unit) → Option ρ) (c1 : (Int × (Int × (Int × (Int × (List ((Int × (Int × Unit)) × (Int × (Int × (Int × (Bool × (Int × (Int × Unit))))))) × (List ((Int × (Int × Unit)) × (Int × (Int × (Int × (Bool × (Int × (Int × Unit))))))) × (List (Int × (Bool × (Int × (Int × ((List (Int × ((Int × (Int × ((List Int) × Unit))) × Unit))) × (Int × (Int × (Int × (Int × Unit))))))))) × (List (Int × ((List Int) × (Int × ((List Int) × Unit)))) × (List (Int × (Int × (Int × (Int × (Int × (Bool × ((Int × ((Int × (Int × ((List Int) × Unit))) × Unit)) × Unit))))))) × (List (Int × ((Int × (Int × ((List Int) × Unit))) × Unit)) × Unit)))))))))) → Option ρ) : Nat → List (Int × (Bool × (Int × (Int × ((List (Int × ((Int × (Int × ((List Int) × Unit))) × Unit))) × (Int × (Int × (Int × (Int × Unit))))))))) → Int → Int → Int → Int → Int → Int → List ((Int × (Int × Unit)) × (Int × (Int × (Int × (Bool × (Int × (Int × Unit))))))) → List ((Int × (Int × Unit)) × (Int × (Int × (Int × (Bool × (Int × (Int × Unit))))))) → List (Int × (Bool × (Int × (Int × ((List (Int × ((Int × (Int × ((List Int) × Unit))) × Unit))) × (Int × (Int × (Int × (Int × Unit))))))))) → List (Int × ((List Int) × (Int × ((List Int) × Unit)))) → List (Int × (Int × (Int × (Int × (Int × (Bool × ((Int × ((Int × (Int × ((List Int) × Unit))) × Unit)) × Unit))))))) → List (Int × ((Int × (Int × ((List Int) × Unit))) × Unit)) → Option ρ
  | 0 => fun _ _ _ _ _ _ _ _ _ _ _ _ _ => none
  | n + 1 => fun x0 x1 x2 x3 x4 x5 x6 x7 x8 x9 x10 x11 x12 => 
    bif (decide ((x2 < x1))) then
    (bif (Go.Dn.inB x2 (((List.length x0) : Nat) : Int)) then
      (Go.Dn.share (List.getD x0 (Int.toNat x2) ((0 : Int), (false, ((0 : Int), ((0 : Int), (([] : List (Int × ((Int × (Int × ((List Int) × Unit))) × Unit))), ((0 : Int), ((0 : Int), ((0 : Int), ((0 : Int), ())))))))))) fun s1 =>
        (impl_NodeFault.F k (s1, ())).bind fun y2 =>
        bif (y2.1.1 != (0 : Int)) then
        (c0 (y2.1.1, ()))
        else bif (s1.1 != x2) then
          (c0 ((1 : Int), ()))
          else impl_PairFault.l7 k c0 c1 n x0 x1 (IntKind.wrap .i64 (x2 + (1 : Int))) x3 x4 x5 x6 x7 x8 x9 x10 x11 x12)
      else none)
    else c1 (x3, x4, x5, x6, x7, x8, x9, x10, x11, x12, ())
def impl_PairFault.l16 {ρ : Type} (k : Nat) (c0 : (Int × Unit) → Option ρ) (c1 : (Int × (Int × (Int × (Int × (List ((Int × (Int × Unit)) × (Int × (Int × (Int × (Bool × (Int × (Int × Unit))))))) × (List ((Int × (Int × Unit)) × (Int × (Int × (Int × (Bool × (Int × (Int × Unit))))))) × (List (Int × (Bool × (Int × (Int × ((List (Int × ((Int × (Int × ((List Int) × Unit))) × Unit))) × (Int × (Int × (Int × (Int × Unit))))))))) × (List (Int × ((List Int) × (Int × ((List Int) × Unit)))) × (List (Int × (Int × (Int × (Int × (Int × (Bool × ((Int × ((Int × (Int × ((List Int) × Unit))) × Unit)) × Unit))))))) × (List (Int × ((Int × (Int × ((List Int) × Unit))) × Unit)) × Unit)))))))))) → Option ρ) : Nat → List (Int × ((List Int) × (Int × ((List Int) × Unit)))) → Int → Int → Int → Int → Int → Int → List ((Int × (Int × Unit)) × (Int × (Int × (Int × (Bool × (Int × (Int × Unit))))))) → List ((Int × (Int × Unit)) × (Int × (Int × (Int × (Bool × (Int × (Int × Unit))))))) → List (Int × (Bool × (Int × (Int × ((List (Int × ((Int × (Int × ((List Int) × Unit))) × Unit))) × (Int × (Int × (Int × (Int × Unit))))))))) → List (Int × ((List Int) × (Int × ((List Int) × Unit)))) → List (Int × (Int × (Int × (Int × (Int × (Bool × ((Int × ((Int × (Int × ((List Int) × Unit))) × Unit)) × Unit))))))) → List (Int × ((Int × (Int × ((List Int) × Unit))) × Unit)) → Option ρ
  | 0 => fun _ _ _ _ _ _ _ _ _ _ _ _ _ => none
  | n + 1 => fun x0 x1 x2 x3 x4 x5 x6 x7 x8 x9 x10 x11 x12 => 
    bif (decide ((x2 < x1))) then
    (bif (Go.Dn.inB x2 (((List.length x0) : Nat) : Int)) then
      (Go.Dn.share (List.getD x0 (Int.toNat x2) ((0 : Int), (([] : List Int), ((0 : Int), (([] : List Int), ()))))) fun s5 =>
        (impl_WireFault.F k (s5, ())).bind fun y6 =>
        bif (y6.1.1 != (0 : Int)) then
        (c0 (y6.1.1, ()))
        else impl_PairFault.l16 k c0 c1 n x0 x1 (IntKind.wrap .i64 (x2 + (1 : Int))) x3 x4 x5 x6 x7 x8 x9 x10 x11 x12)
      else none)
    else c1 (x3, x4, x5, x6, x7, x8, x9, x10, x11, x12, ())
def impl_PairFault.l25 {ρ : Type} (k : Nat) (c0 : (Int × Unit) → Option ρ) (c1 : (Int × (Int × (Int × (Int × (List ((Int × (Int × Unit)) × (Int × (Int × (Int × (Bool × (Int × (Int × Unit))))))) × (List ((Int × (Int × Unit)) × (Int × (Int × (Int × (Bool × (Int × (Int × Unit))))))) × (List (Int × (Bool × (Int × (Int × ((List (Int × ((Int × (Int × ((List Int) × Unit))) × Unit))) × (Int × (Int × (Int × (Int × Unit))))))))) × (List (Int × ((List Int) × (Int × ((List Int) × Unit)))) × (List (Int × (Int × (Int × (Int × (Int × (Bool × ((Int × ((Int × (Int × ((List Int) × Unit))) × Unit)) × Unit))))))) × (List (Int × ((Int × (Int × ((List Int) × Unit))) × Unit)) × Unit)))))))))) → Option ρ) : Nat → List (Int × (Int × (Int × (Int × (Int × (Bool × ((Int × ((Int × (Int × ((List Int) × Unit))) × Unit)) × Unit))))))) → Int → Int → Int → Int → Int → Int → List ((Int × (Int × Unit)) × (Int × (Int × (Int × (Bool × (Int × (Int × Unit))))))) → List ((Int × (Int × Unit)) × (Int × (Int × (Int × (Bool × (Int × (Int × Unit))))))) → List (Int × (Bool × (Int × (Int × ((List (Int × ((Int × (Int × ((List Int) × Unit))) × Unit))) × (Int × (Int × (Int × (Int × Unit))))))))) → List (Int × ((List Int) × (Int × ((List Int) × Unit)))) → List (Int × (Int × (Int × (Int × (Int × (Bool × ((Int × ((Int × (Int × ((List Int) × Unit))) × Unit)) × Unit))))))) → List (Int × ((Int × (Int × ((List Int) × Unit))) × Unit)) → Option ρ
  | 0 => fun _ _ _ _ _ _ _ _ _ _ _ _ _ => none
  | n + 1 => fun x0 x1 x2 x3 x4 x5 x6 x7 x8 x9 x10 x11 x12 => 
    bif (decide ((x2 < x1))) then
    (bif (Go.Dn.inB x2 (((List.length x0) : Nat) : Int)) then
      (Go.Dn.share (List.getD x0 (Int.toNat x2) ((0 : Int), ((0 : Int), ((0 : Int), ((0 : Int), ((0 : Int), (false, (((0 : Int), (((0 : Int), ((0 : Int), (([] : List Int), ()))), ())), ())))))))) fun s9 =>
        (impl_isNode.F k (s9.2.1, ())).bind fun y10 =>
        bif (!y10.1.1) then
        (c0 ((1 : Int), ()))
        else bif (Go.Dn.inB s9.2.1 (((List.length x9) : Nat) : Int)) then
          (Go.Dn.share (List.getD x9 (Int.toNat s9.2.1) ((0 : Int), (false, ((0 : Int), ((0 : Int), (([] : List (Int × ((Int × (Int × ((List Int) × Unit))) × Unit))), ((0 : Int), ((0 : Int), ((0 : Int), ((0 : Int), ())))))))))) fun s11 =>
            (impl_MailFault.F k (s11, s9, ())).bind fun y12 =>
            bif (y12.1.1 != (0 : Int)) then
            (c0 (y12.1.1, ()))
            else impl_PairFault.l25 k c0 c1 n x0 x1 (IntKind.wrap .i64 (x2 + (1 : Int))) x3 x4 x5 x6 x7 x8 x9 x10 x11 x12)
          else none)
      else none)
    else c1 (x3, x4, x5, x6, x7, x8, x9, x10, x11, x12, ())
def impl_PairFault.l36 {ρ : Type} (k : Nat) (c0 : (Int × Unit) → Option ρ) (c1 : Unit → Option ρ) : Nat → List (Int × ((Int × (Int × ((List Int) × Unit))) × Unit)) → Int → Int → Option ρ
  | 0 => fun _ _ _ => none
  | n + 1 => fun x0 x1 x2 => 
    bif (decide ((x2 < x1))) then
    (bif (Go.Dn.inB x2 (((List.length x0) : Nat) : Int)) then
      (Go.Dn.share (List.getD x0 (Int.toNat x2) ((0 : Int), (((0 : Int), ((0 : Int), (([] : List Int), ()))), ()))) fun s15 =>
        (impl_EntryFault.F k (s15, ())).bind fun y16 =>
        bif (y16.1.1 != (0 : Int)) then
        (c0 (y16.1.1, ()))
        else impl_PairFault.l36 k c0 c1 n x0 x1 (IntKind.wrap .i64 (x2 + (1 : Int))))
      else none)
    else c1 (())
def impl_PairFault.F (k : Nat) (x : ((((Int × (Int × (Int × Unit))) × (Int × ((List ((Int × (Int × Unit)) × (Int × (Int × (Int × (Bool × (Int × (Int × Unit)))))))) × ((List ((Int × (Int × Unit)) × (Int × (Int × (Int × (Bool × (Int × (Int × Unit)))))))) × Unit)))) × ((List (Int × (Bool × (Int × (Int × ((List (Int × ((Int × (Int × ((List Int) × Unit))) × Unit))) × (Int × (Int × (Int × (Int × Unit)))))))))) × ((List (Int × ((List Int) × (Int × ((List Int) × Unit))))) × ((List (Int × (Int × (Int × (Int × (Int × (Bool × ((Int × ((Int × (Int × ((List Int) × Unit))) × Unit)) × Unit)))))))) × ((List (Int × ((Int × (Int × ((List Int) × Unit))) × Unit))) × Unit))))) × Unit)) : Option ((Int × Unit) × Unit) :=
  (impl_SettingsFault.F k (x.1.1, ())).bind fun y0 =>
  bif (y0.1.1 != (0 : Int)) then
  (some y0)
  else bif ((((List.length x.1.2.1) : Nat) : Int) != (2 : Int)) then
    (some (((1 : Int), ()), ()))
    else bif ((((List.length x.1.2.2.1) : Nat) : Int) != (3 : Int)) then
      (some (((1 : Int), ()), ()))
      else impl_PairFault.l7 k (fun e3 =>
          some (e3, ())) (fun e4 =>
          impl_PairFault.l16 k (fun e7 =>
            some (e7, ())) (fun e8 =>
            bif (decide (((((List.length e8.2.2.2.2.2.2.2.2.1) : Nat) : Int) > (40 : Int)))) then
            (some (((2 : Int), ()), ()))
            else impl_PairFault.l25 k (fun e13 =>
                some (e13, ())) (fun e14 =>
                bif (decide (((((List.length e14.2.2.2.2.2.2.2.2.2.1) : Nat) : Int) > (100 : Int)))) then
                (some (((2 : Int), ()), ()))
                else impl_PairFault.l36 k (fun e17 =>
                    some (e17, ())) (fun e18 =>
                    some (((0 : Int), ()), ())) k e14.2.2.2.2.2.2.2.2.2.1 (((List.length e14.2.2.2.2.2.2.2.2.2.1) : Nat) : Int) (0 : Int)) k e8.2.2.2.2.2.2.2.2.1 (((List.length e8.2.2.2.2.2.2.2.2.1) : Nat) : Int) (0 : Int) e8.1 e8.2.1 e8.2.2.1 e8.2.2.2.1 e8.2.2.2.2.1 e8.2.2.2.2.2.1 e8.2.2.2.2.2.2.1 e8.2.2.2.2.2.2.2.1 e8.2.2.2.2.2.2.2.2.1 e8.2.2.2.2.2.2.2.2.2.1) k e4.2.2.2.2.2.2.2.1 (((List.length e4.2.2.2.2.2.2.2.1) : Nat) : Int) (0 : Int) e4.1 e4.2.1 e4.2.2.1 e4.2.2.2.1 e4.2.2.2.2.1 e4.2.2.2.2.2.1 e4.2.2.2.2.2.2.1 e4.2.2.2.2.2.2.2.1 e4.2.2.2.2.2.2.2.2.1 e4.2.2.2.2.2.2.2.2.2.1) k x.1.2.1 (((List.length x.1.2.1) : Nat) : Int) (0 : Int) x.1.1.1.1 x.1.1.1.2.1 x.1.1.1.2.2.1 x.1.1.2.1 x.1.1.2.2.1 x.1.1.2.2.2.1 x.1.2.1 x.1.2.2.1 x.1.2.2.2.1 x.1.2.2.2.2.1
def impl_PairFault.hd : Hints := ⟨[(7, ⟨[1, 33, 34, 35], []⟩), (16, ⟨[1, 51, 52, 53], []⟩), (25, ⟨[1, 68, 69, 70], []⟩), (36, ⟨[95, 96, 97], []⟩)], [(0, [1]), (1, [1, 33, 34, 35]), (2, [1]), (3, [1, 51, 52, 53]), (4, [1]), (5, [1, 68, 69, 70]), (6, []), (7, [95, 96, 97])], [2], [0, 1, 3, 4, 5, 6, 8, 9, 11, 12, 14, 15, 33, 34, 35, 51, 52, 53, 68, 69, 70, 95, 96, 97], [(29, [0, 1, 0, 4, 15, 31, 0, 127, 255])]⟩
def impl_PairFault.lps (k : Nat) : List (Nat × Lp impl_PairFault.sg.Out) := [(7, ⟨[.l kNode, .i, .i, .i, .i, .i, .i, .l kRule, .l kRule, .l kNode, .l kWire, .l kMail, .l kEntry], fun x => (fun x0 x1 x2 x3 x4 x5 x6 x7 x8 x9 x10 x11 x12 => ⟨[(1, .v false [.box 0 0]), (33, .v false [.fz kNode x0]), (34, .v false [.int .i64 x1]), (35, .v false [.int .i64 x2])], [(0, .box [.int .i64 x3, .int .i64 x4, .int .i64 x5, .int .i64 x6, .fz kRule x7, .fz kRule x8, .fz kNode x9, .fz kWire x10, .fz kMail x11, .fz kEntry x12])], []⟩) x.1 x.2.1 x.2.2.1 x.2.2.2.1 x.2.2.2.2.1 x.2.2.2.2.2.1 x.2.2.2.2.2.2.1 x.2.2.2.2.2.2.2.1 x.2.2.2.2.2.2.2.2.1 x.2.2.2.2.2.2.2.2.2.1 x.2.2.2.2.2.2.2.2.2.2.1 x.2.2.2.2.2.2.2.2.2.2.2.1 x.2.2.2.2.2.2.2.2.2.2.2.2.1, fun C n x => impl_PairFault.l7 k (fun y => C .ret ((fun y0 => ⟨[(2, .v false [.int .i64 y0])], [], []⟩) y.1)) (fun y => C (.exit 0) ((fun y0 y1 y2 y3 y4 y5 y6 y7 y8 y9 => ⟨[(1, .v false [.box 0 0])], [(0, .box [.int .i64 y0, .int .i64 y1, .int .i64 y2, .int .i64 y3, .fz kRule y4, .fz kRule y5, .fz kNode y6, .fz kWire y7, .fz kMail y8, .fz kEntry y9])], []⟩) y.1 y.2.1 y.2.2.1 y.2.2.2.1 y.2.2.2.2.1 y.2.2.2.2.2.1 y.2.2.2.2.2.2.1 y.2.2.2.2.2.2.2.1 y.2.2.2.2.2.2.2.2.1 y.2.2.2.2.2.2.2.2.2.1)) n x.1 x.2.1 x.2.2.1 x.2.2.2.1 x.2.2.2.2.1 x.2.2.2.2.2.1 x.2.2.2.2.2.2.1 x.2.2.2.2.2.2.2.1 x.2.2.2.2.2.2.2.2.1 x.2.2.2.2.2.2.2.2.2.1 x.2.2.2.2.2.2.2.2.2.2.1 x.2.2.2.2.2.2.2.2.2.2.2.1 x.2.2.2.2.2.2.2.2.2.2.2.2.1⟩),
  (16, ⟨[.l kWire, .i, .i, .i, .i, .i, .i, .l kRule, .l kRule, .l kNode, .l kWire, .l kMail, .l kEntry], fun x => (fun x0 x1 x2 x3 x4 x5 x6 x7 x8 x9 x10 x11 x12 => ⟨[(1, .v false [.box 0 0]), (51, .v false [.fz kWire x0]), (52, .v false [.int .i64 x1]), (53, .v false [.int .i64 x2])], [(0, .box [.int .i64 x3, .int .i64 x4, .int .i64 x5, .int .i64 x6, .fz kRule x7, .fz kRule x8, .fz kNode x9, .fz kWire x10, .fz kMail x11, .fz kEntry x12])], []⟩) x.1 x.2.1 x.2.2.1 x.2.2.2.1 x.2.2.2.2.1 x.2.2.2.2.2.1 x.2.2.2.2.2.2.1 x.2.2.2.2.2.2.2.1 x.2.2.2.2.2.2.2.2.1 x.2.2.2.2.2.2.2.2.2.1 x.2.2.2.2.2.2.2.2.2.2.1 x.2.2.2.2.2.2.2.2.2.2.2.1 x.2.2.2.2.2.2.2.2.2.2.2.2.1, fun C n x => impl_PairFault.l16 k (fun y => C .ret ((fun y0 => ⟨[(2, .v false [.int .i64 y0])], [], []⟩) y.1)) (fun y => C (.exit 2) ((fun y0 y1 y2 y3 y4 y5 y6 y7 y8 y9 => ⟨[(1, .v false [.box 0 0])], [(0, .box [.int .i64 y0, .int .i64 y1, .int .i64 y2, .int .i64 y3, .fz kRule y4, .fz kRule y5, .fz kNode y6, .fz kWire y7, .fz kMail y8, .fz kEntry y9])], []⟩) y.1 y.2.1 y.2.2.1 y.2.2.2.1 y.2.2.2.2.1 y.2.2.2.2.2.1 y.2.2.2.2.2.2.1 y.2.2.2.2.2.2.2.1 y.2.2.2.2.2.2.2.2.1 y.2.2.2.2.2.2.2.2.2.1)) n x.1 x.2.1 x.2.2.1 x.2.2.2.1 x.2.2.2.2.1 x.2.2.2.2.2.1 x.2.2.2.2.2.2.1 x.2.2.2.2.2.2.2.1 x.2.2.2.2.2.2.2.2.1 x.2.2.2.2.2.2.2.2.2.1 x.2.2.2.2.2.2.2.2.2.2.1 x.2.2.2.2.2.2.2.2.2.2.2.1 x.2.2.2.2.2.2.2.2.2.2.2.2.1⟩),
  (25, ⟨[.l kMail, .i, .i, .i, .i, .i, .i, .l kRule, .l kRule, .l kNode, .l kWire, .l kMail, .l kEntry], fun x => (fun x0 x1 x2 x3 x4 x5 x6 x7 x8 x9 x10 x11 x12 => ⟨[(1, .v false [.box 0 0]), (68, .v false [.fz kMail x0]), (69, .v false [.int .i64 x1]), (70, .v false [.int .i64 x2])], [(0, .box [.int .i64 x3, .int .i64 x4, .int .i64 x5, .int .i64 x6, .fz kRule x7, .fz kRule x8, .fz kNode x9, .fz kWire x10, .fz kMail x11, .fz kEntry x12])], []⟩) x.1 x.2.1 x.2.2.1 x.2.2.2.1 x.2.2.2.2.1 x.2.2.2.2.2.1 x.2.2.2.2.2.2.1 x.2.2.2.2.2.2.2.1 x.2.2.2.2.2.2.2.2.1 x.2.2.2.2.2.2.2.2.2.1 x.2.2.2.2.2.2.2.2.2.2.1 x.2.2.2.2.2.2.2.2.2.2.2.1 x.2.2.2.2.2.2.2.2.2.2.2.2.1, fun C n x => impl_PairFault.l25 k (fun y => C .ret ((fun y0 => ⟨[(2, .v false [.int .i64 y0])], [], []⟩) y.1)) (fun y => C (.exit 4) ((fun y0 y1 y2 y3 y4 y5 y6 y7 y8 y9 => ⟨[(1, .v false [.box 0 0])], [(0, .box [.int .i64 y0, .int .i64 y1, .int .i64 y2, .int .i64 y3, .fz kRule y4, .fz kRule y5, .fz kNode y6, .fz kWire y7, .fz kMail y8, .fz kEntry y9])], []⟩) y.1 y.2.1 y.2.2.1 y.2.2.2.1 y.2.2.2.2.1 y.2.2.2.2.2.1 y.2.2.2.2.2.2.1 y.2.2.2.2.2.2.2.1 y.2.2.2.2.2.2.2.2.1 y.2.2.2.2.2.2.2.2.2.1)) n x.1 x.2.1 x.2.2.1 x.2.2.2.1 x.2.2.2.2.1 x.2.2.2.2.2.1 x.2.2.2.2.2.2.1 x.2.2.2.2.2.2.2.1 x.2.2.2.2.2.2.2.2.1 x.2.2.2.2.2.2.2.2.2.1 x.2.2.2.2.2.2.2.2.2.2.1 x.2.2.2.2.2.2.2.2.2.2.2.1 x.2.2.2.2.2.2.2.2.2.2.2.2.1⟩),
  (36, ⟨[.l kEntry, .i, .i], fun x => (fun x0 x1 x2 => ⟨[(95, .v false [.fz kEntry x0]), (96, .v false [.int .i64 x1]), (97, .v false [.int .i64 x2])], [], []⟩) x.1 x.2.1 x.2.2.1, fun C n x => impl_PairFault.l36 k (fun y => C .ret ((fun y0 => ⟨[(2, .v false [.int .i64 y0])], [], []⟩) y.1)) (fun _ => C (.exit 6) ⟨[], [], []⟩) n x.1 x.2.1 x.2.2.1⟩)]
theorem impl_PairFault.loops (k : Nat) : LoopsOk impl_PairFault.E k impl_PairFault.hd (impl_PairFault.lps k) (loopsOf (Go.Proofs.Tryz.f30.body.getD .skip)) := ⟨⟨fun _ _ => rfl, fun _ _ _ => by kernel_rfl, fun _ => ⟨rfl, rfl⟩⟩, ⟨⟨fun _ _ => rfl, fun _ _ _ => by kernel_rfl, fun _ => ⟨rfl, rfl⟩⟩, ⟨⟨fun _ _ => rfl, fun _ _ _ => by kernel_rfl, fun _ => ⟨rfl, rfl⟩⟩, ⟨⟨fun _ _ => rfl, fun _ _ _ => by kernel_rfl, fun _ => ⟨rfl, rfl⟩⟩, trivial⟩⟩⟩⟩
theorem impl_PairFault.den (k : Nat) (x : Sig.In impl_PairFault.sg.ps) : denFn impl_PairFault.E k Go.Proofs.Tryz.f30 impl_PairFault.sg impl_PairFault.hd (runL k impl_PairFault.hd (impl_PairFault.lps k)) x = impl_PairFault.F k x := by kernel_rfl
theorem impl_PairFault.ok (k : Nat) : Contract Tryz.prog 30 impl_PairFault.sg (impl_PairFault.F k) := ok_of (E := impl_PairFault.E) (tysOk _ _) (eqsOk _) ⟨impl_SettingsFault.ok k, impl_NodeFault.ok k, impl_WireFault.ok k, impl_isNode.ok k, impl_MailFault.ok k, impl_EntryFault.ok k, trivial⟩ Tryz.func30 rfl (by kernel_rfl) (impl_PairFault.loops k) (impl_PairFault.den k)
def slices_IndexFunc_impl_Wire_impl_Wire.sg : Sig := ⟨[.b (.sl kWire), .f (.pair kWire .unit) .bool], [((.int .i64), .rd)]⟩
def slices_IndexFunc_impl_Wire_impl_Wire.E : Env := ⟨tys, bys, [], eqs⟩
def slices_IndexFunc_impl_Wire_impl_Wire.l2 {ρ : Type} (k : Nat) (c0 : (Int × Unit) → Option ρ) (c1 : Unit → Option ρ) : Nat → List (Int × ((List Int) × (Int × ((List Int) × Unit)))) → (((Int × ((List Int) × (Int × ((List Int) × Unit)))) × Unit) → Option Bool) → Int → Int → Option ρ
  | 0 => fun _ _ _ _ => none
  | n + 1 => fun x0 x1 x2 x3 => 
    bif (decide ((x3 < x2))) then
    (bif (Go.Dn.inB x3 (((List.length x0) : Nat) : Int)) then
      (Go.Dn.share (List.getD x0 (Int.toNat x3) ((0 : Int), (([] : List Int), ((0 : Int), (([] : List Int), ()))))) fun s0 =>
        (x1 (s0, ())).bind fun y1 =>
        bif y1 then
        (c0 (x3, ()))
        else slices_IndexFunc_impl_Wire_impl_Wire.l2 k c0 c1 n x0 x1 x2 (IntKind.wrap .i64 (x3 + (1 : Int))))
      else none)
    else c1 (())
def slices_IndexFunc_impl_Wire_impl_Wire.F (k : Nat) (x : ((List (Int × ((List Int) × (Int × ((List Int) × Unit))))) × ((((Int × ((List Int) × (Int × ((List Int) × Unit)))) × Unit) → Option Bool) × Unit))) : Option ((Int × Unit) × Unit) :=
  slices_IndexFunc_impl_Wire_impl_Wire.l2 k (fun e2 =>
    some (e2, ())) (fun e3 =>
    some (((-(1 : Int)), ()), ())) k x.1 x.2.1 (((List.length x.1) : Nat) : Int) (0 : Int)
def slices_IndexFunc_impl_Wire_impl_Wire.hd : Hints := ⟨[(2, ⟨[0, 1, 7, 8], []⟩)], [(0, []), (1, [0, 1, 7, 8])], [4], [0, 1, 5, 7, 8], []⟩
def slices_IndexFunc_impl_Wire_impl_Wire.lps (k : Nat) : List (Nat × Lp slices_IndexFunc_impl_Wire_impl_Wire.sg.Out) := [(2, ⟨[.l kWire, .f (.pair kWire .unit) .bool, .i, .i], fun x => (fun x0 x1 x2 x3 => ⟨[(0, .v false [.fz kWire x0]), (1, .v false [.fnv (.pair kWire .unit) .bool x1]), (7, .v false [.int .i64 x2]), (8, .v false [.int .i64 x3])], [], []⟩) x.1 x.2.1 x.2.2.1 x.2.2.2.1, fun C n x => slices_IndexFunc_impl_Wire_impl_Wire.l2 k (fun y => C .ret ((fun y0 => ⟨[(4, .v false [.int .i64 y0])], [], []⟩) y.1)) (fun _ => C (.exit 0) ⟨[], [], []⟩) n x.1 x.2.1 x.2.2.1 x.2.2.2.1⟩)]
theorem slices_IndexFunc_impl_Wire_impl_Wire.loops (k : Nat) : LoopsOk slices_IndexFunc_impl_Wire_impl_Wire.E k slices_IndexFunc_impl_Wire_impl_Wire.hd (slices_IndexFunc_impl_Wire_impl_Wire.lps k) (loopsOf (Go.Proofs.Tryz.f108.body.getD .skip)) := ⟨⟨fun _ _ => rfl, fun _ _ _ => by kernel_rfl, fun _ => ⟨rfl, rfl⟩⟩, trivial⟩
theorem slices_IndexFunc_impl_Wire_impl_Wire.den (k : Nat) (x : Sig.In slices_IndexFunc_impl_Wire_impl_Wire.sg.ps) : denFn slices_IndexFunc_impl_Wire_impl_Wire.E k Go.Proofs.Tryz.f108 slices_IndexFunc_impl_Wire_impl_Wire.sg slices_IndexFunc_impl_Wire_impl_Wire.hd (runL k slices_IndexFunc_impl_Wire_impl_Wire.hd (slices_IndexFunc_impl_Wire_impl_Wire.lps k)) x = slices_IndexFunc_impl_Wire_impl_Wire.F k x := by kernel_rfl
theorem slices_IndexFunc_impl_Wire_impl_Wire.ok (k : Nat) : Contract Tryz.prog 108 slices_IndexFunc_impl_Wire_impl_Wire.sg (slices_IndexFunc_impl_Wire_impl_Wire.F k) := ok_of (E := slices_IndexFunc_impl_Wire_impl_Wire.E) (tysOk _ _) (eqsOk _) trivial Tryz.func108 rfl (by kernel_rfl) (slices_IndexFunc_impl_Wire_impl_Wire.loops k) (slices_IndexFunc_impl_Wire_impl_Wire.den k)
def slices_ContainsFunc_impl_Wire_impl_Wire.sg : Sig := ⟨[.b (.sl kWire), .f (.pair kWire .unit) .bool], [(.bool, .rd)]⟩
def slices_ContainsFunc_impl_Wire_impl_Wire.E : Env := ⟨tys, bys, [(108, ⟨slices_IndexFunc_impl_Wire_impl_Wire.sg, slices_IndexFunc_impl_Wire_impl_Wire.F⟩)], eqs⟩
def slices_ContainsFunc_impl_Wire_impl_Wire.F (k : Nat) (x : ((List (Int × ((List Int) × (Int × ((List Int) × Unit))))) × ((((Int × ((List Int) × (Int × ((List Int) × Unit)))) × Unit) → Option Bool) × Unit))) : Option ((Bool × Unit) × Unit) :=
  (slices_IndexFunc_impl_Wire_impl_Wire.F k x).bind fun y0 =>
  some (((decide ((y0.1.1 ≥ (0 : Int)))), ()), ())
def slices_ContainsFunc_impl_Wire_impl_Wire.hd : Hints := ⟨[], [], [4], [0, 1], []⟩
def slices_ContainsFunc_impl_Wire_impl_Wire.lps (k : Nat) : List (Nat × Lp slices_ContainsFunc_impl_Wire_impl_Wire.sg.Out) := []
theorem slices_ContainsFunc_impl_Wire_impl_Wire.loops (k : Nat) : LoopsOk slices_ContainsFunc_impl_Wire_impl_Wire.E k slices_ContainsFunc_impl_Wire_impl_Wire.hd (slices_ContainsFunc_impl_Wire_impl_Wire.lps k) (loopsOf (Go.Proofs.Tryz.f67.body.getD .skip)) := trivial
theorem slices_ContainsFunc_impl_Wire_impl_Wire.den (k : Nat) (x : Sig.In slices_ContainsFunc_impl_Wire_impl_Wire.sg.ps) : denFn slices_ContainsFunc_impl_Wire_impl_Wire.E k Go.Proofs.Tryz.f67 slices_ContainsFunc_impl_Wire_impl_Wire.sg slices_ContainsFunc_impl_Wire_impl_Wire.hd (runL k slices_ContainsFunc_impl_Wire_impl_Wire.hd (slices_ContainsFunc_impl_Wire_impl_Wire.lps k)) x = slices_ContainsFunc_impl_Wire_impl_Wire.F k x := by kernel_rfl
theorem slices_ContainsFunc_impl_Wire_impl_Wire.ok (k : Nat) : Contract Tryz.prog 67 slices_ContainsFunc_impl_Wire_impl_Wire.sg (slices_ContainsFunc_impl_Wire_impl_Wire.F k) := ok_of (E := slices_ContainsFunc_impl_Wire_impl_Wire.E) (tysOk _ _) (eqsOk _) ⟨slices_IndexFunc_impl_Wire_impl_Wire.ok k, trivial⟩ Tryz.func67 rfl (by kernel_rfl) (slices_ContainsFunc_impl_Wire_impl_Wire.loops k) (slices_ContainsFunc_impl_Wire_impl_Wire.den k)
def impl_Pair_oneActive_1.sg : Sig := ⟨[.b kWire, .r kNode], [(.bool, .rd)]⟩
def impl_Pair_oneActive_1.E : Env := ⟨tys, bys, [], eqs⟩
def impl_Pair_oneActive_1.F (k : Nat) (x : ((Int × ((List Int) × (Int × ((List Int) × Unit)))) × ((Int × (Bool × (Int × (Int × ((List (Int × ((Int × (Int × ((List Int) × Unit))) × Unit))) × (Int × (Int × (Int × (Int × Unit))))))))) × Unit))) : Option ((Bool × Unit) × Unit) :=
  some (((decide ((x.2.1.2.2.2.1 > x.1.1))), ()), ())
def impl_Pair_oneActive_1.hd : Hints := ⟨[], [], [3], [0, 1, 2], []⟩
def impl_Pair_oneActive_1.lps (k : Nat) : List (Nat × Lp impl_Pair_oneActive_1.sg.Out) := []
theorem impl_Pair_oneActive_1.loops (k : Nat) : LoopsOk impl_Pair_oneActive_1.E k impl_Pair_oneActive_1.hd (impl_Pair_oneActive_1.lps k) (loopsOf (Go.Proofs.Tryz.f68.body.getD .skip)) := trivial
theorem impl_Pair_oneActive_1.den (k : Nat) (x : Sig.In impl_Pair_oneActive_1.sg.ps) : denFn impl_Pair_oneActive_1.E k Go.Proofs.Tryz.f68 impl_Pair_oneActive_1.sg impl_Pair_oneActive_1.hd (runL k impl_Pair_oneActive_1.hd (impl_Pair_oneActive_1.lps k)) x = impl_Pair_oneActive_1.F k x := by kernel_rfl
theorem impl_Pair_oneActive_1.ok (k : Nat) : Contract Tryz.prog 68 impl_Pair_oneActive_1.sg (impl_Pair_oneActive_1.F k) := ok_of (E := impl_Pair_oneActive_1.E) (tysOk _ _) (eqsOk _) trivial Tryz.func68 rfl (by kernel_rfl) (impl_Pair_oneActive_1.loops k) (impl_Pair_oneActive_1.den k)
def impl_Pair_oneActive_2.sg : Sig := ⟨[.b kWire, .r kNode], [(.bool, .rd)]⟩
def impl_Pair_oneActive_2.E : Env := ⟨tys, bys, [], eqs⟩
def impl_Pair_oneActive_2.F (k : Nat) (x : ((Int × ((List Int) × (Int × ((List Int) × Unit)))) × ((Int × (Bool × (Int × (Int × ((List (Int × ((Int × (Int × ((List Int) × Unit))) × Unit))) × (Int × (Int × (Int × (Int × Unit))))))))) × Unit))) : Option ((Bool × Unit) × Unit) :=
  some (((x.2.1.2.2.2.1 != x.1.1), ()), ())
def impl_Pair_oneActive_2.hd : Hints := ⟨[], [], [3], [0, 1, 2], []⟩
def impl_Pair_oneActive_2.lps (k : Nat) : List (Nat × Lp impl_Pair_oneActive_2.sg.Out) := []
theorem impl_Pair_oneActive_2.loops (k : Nat) : LoopsOk impl_Pair_oneActive_2.E k impl_Pair_oneActive_2.hd (impl_Pair_oneActive_2.lps k) (loopsOf (Go.Proofs.Tryz.f69.body.getD .skip)) := trivial
theorem impl_Pair_oneActive_2.den (k : Nat) (x : Sig.In impl_Pair_oneActive_2.sg.ps) : denFn impl_Pair_oneActive_2.E k Go.Proofs.Tryz.f69 impl_Pair_oneActive_2.sg impl_Pair_oneActive_2.hd (runL k impl_Pair_oneActive_2.hd (impl_Pair_oneActive_2.lps k)) x = impl_Pair_oneActive_2.F k x := by kernel_rfl
theorem impl_Pair_oneActive_2.ok (k : Nat) : Contract Tryz.prog 69 impl_Pair_oneActive_2.sg (impl_Pair_oneActive_2.F k) := ok_of (E := impl_Pair_oneActive_2.E) (tysOk _ _) (eqsOk _) trivial Tryz.func69 rfl (by kernel_rfl) (impl_Pair_oneActive_2.loops k) (impl_Pair_oneActive_2.den k)
def impl_Pair_oneActive.sg : Sig := ⟨[.r kPair], [(.bool, .rd)]⟩
def impl_Pair_oneActive.E : Env := ⟨tys, bys, [(67, ⟨slices_ContainsFunc_impl_Wire_impl_Wire.sg, slices_ContainsFunc_impl_Wire_impl_Wire.F⟩), (68, ⟨impl_Pair_oneActive_1.sg, impl_Pair_oneActive_1.F⟩), (69, ⟨impl_Pair_oneActive_2.sg, impl_Pair_oneActive_2.F⟩)], eqs⟩
def impl_Pair_oneActive.l3 {ρ : Type} (k : Nat) (c0 : (Bool × Unit) → Option ρ) (c1 : (Int × Unit) → Option ρ) : Nat → (((Int × (Int × (Int × Unit))) × (Int × ((List ((Int × (Int × Unit)) × (Int × (Int × (Int × (Bool × (Int × (Int × Unit)))))))) × ((List ((Int × (Int × Unit)) × (Int × (Int × (Int × (Bool × (Int × (Int × Unit)))))))) × Unit)))) × ((List (Int × (Bool × (Int × (Int × ((List (Int × ((Int × (Int × ((List Int) × Unit))) × Unit))) × (Int × (Int × (Int × (Int × Unit)))))))))) × ((List (Int × ((List Int) × (Int × ((List Int) × Unit))))) × ((List (Int × (Int × (Int × (Int × (Int × (Bool × ((Int × ((Int × (Int × ((List Int) × Unit))) × Unit)) × Unit)))))))) × ((List (Int × ((Int × (Int × ((List Int) × Unit))) × Unit))) × Unit))))) → Int → List (Int × (Bool × (Int × (Int × ((List (Int × ((Int × (Int × ((List Int) × Unit))) × Unit))) × (Int × (Int × (Int × (Int × Unit))))))))) → Int → Int → Option ρ
  | 0 => fun _ _ _ _ _ => none
  | n + 1 => fun x0 x1 x2 x3 x4 => 
    bif (decide ((x4 < x3))) then
    (bif (Go.Dn.inB x4 (((List.length x2) : Nat) : Int)) then
      (Go.Dn.share (List.getD x2 (Int.toNat x4) ((0 : Int), (false, ((0 : Int), ((0 : Int), (([] : List (Int × ((Int × (Int × ((List Int) × Unit))) × Unit))), ((0 : Int), ((0 : Int), ((0 : Int), ((0 : Int), ())))))))))) fun s0 =>
        bif (s0.2.2.1 != (1 : Int)) then
        (impl_Pair_oneActive.l3 k c0 c1 n x0 x1 x2 x3 (IntKind.wrap .i64 (x4 + (1 : Int))))
        else (slices_ContainsFunc_impl_Wire_impl_Wire.F k (x0.2.2.1, (fun x => (Option.bind (impl_Pair_oneActive_1.F k (x.1, s0, ())) (fun y => (Option.some y.1.1)))), ())).bind fun y1 =>
          bif y1.1.1 then
          (c0 (false, ()))
          else (slices_ContainsFunc_impl_Wire_impl_Wire.F k (x0.2.2.1, (fun x => (Option.bind (impl_Pair_oneActive_2.F k (x.1, s0, ())) (fun y => (Option.some y.1.1)))), ())).bind fun y2 =>
            bif (!y2.1.1) then
            (impl_Pair_oneActive.l3 k c0 c1 n x0 (IntKind.wrap .i64 (x1 + (1 : Int))) x2 x3 (IntKind.wrap .i64 (x4 + (1 : Int))))
            else impl_Pair_oneActive.l3 k c0 c1 n x0 x1 x2 x3 (IntKind.wrap .i64 (x4 + (1 : Int))))
      else none)
    else c1 (x1, ())
def impl_Pair_oneActive.F (k : Nat) (x : ((((Int × (Int × (Int × Unit))) × (Int × ((List ((Int × (Int × Unit)) × (Int × (Int × (Int × (Bool × (Int × (Int × Unit)))))))) × ((List ((Int × (Int × Unit)) × (Int × (Int × (Int × (Bool × (Int × (Int × Unit)))))))) × Unit)))) × ((List (Int × (Bool × (Int × (Int × ((List (Int × ((Int × (Int × ((List Int) × Unit))) × Unit))) × (Int × (Int × (Int × (Int × Unit)))))))))) × ((List (Int × ((List Int) × (Int × ((List Int) × Unit))))) × ((List (Int × (Int × (Int × (Int × (Int × (Bool × ((Int × ((Int × (Int × ((List Int) × Unit))) × Unit)) × Unit)))))))) × ((List (Int × ((Int × (Int × ((List Int) × Unit))) × Unit))) × Unit))))) × Unit)) : Option ((Bool × Unit) × Unit) :=
  impl_Pair_oneActive.l3 k (fun e3 =>
    some (e3, ())) (fun e4 =>
    some (((decide ((e4.1 ≤ (1 : Int)))), ()), ())) k x.1 (0 : Int) x.1.2.1 (((List.length x.1.2.1) : Nat) : Int) (0 : Int)
def impl_Pair_oneActive.hd : Hints := ⟨[(3, ⟨[0, 3, 9, 10, 11], []⟩)], [(0, [3]), (1, [0, 3, 9, 10, 11])], [2], [0, 3, 5, 9, 10, 11], []⟩
def impl_Pair_oneActive.lps (k : Nat) : List (Nat × Lp impl_Pair_oneActive.sg.Out) := [(3, ⟨[.x kPair, .i, .l kNode, .i, .i], fun x => (fun x0 x1 x2 x3 x4 => ⟨[(0, .v false [.fel kPair x0 0]), (3, .v false [.int .i64 x1]), (9, .v false [.fz kNode x2]), (10, .v false [.int .i64 x3]), (11, .v false [.int .i64 x4])], [], []⟩) x.1 x.2.1 x.2.2.1 x.2.2.2.1 x.2.2.2.2.1, fun C n x => impl_Pair_oneActive.l3 k (fun y => C .ret ((fun y0 => ⟨[(2, .v false [.bool y0])], [], []⟩) y.1)) (fun y => C (.exit 0) ((fun y0 => ⟨[(3, .v false [.int .i64 y0])], [], []⟩) y.1)) n x.1 x.2.1 x.2.2.1 x.2.2.2.1 x.2.2.2.2.1⟩)]
theorem impl_Pair_oneActive.loops (k : Nat) : LoopsOk impl_Pair_oneActive.E k impl_Pair_oneActive.hd (impl_Pair_oneActive.lps k) (loopsOf (Go.Proofs.Tryz.f31.body.getD .skip)) := ⟨⟨fun _ _ => rfl, fun _ _ _ => by kernel_rfl, fun _ => ⟨rfl, rfl⟩⟩, trivial⟩
theorem impl_Pair_oneActive.den (k : Nat) (x : Sig.In impl_Pair_oneActive.sg.ps) : denFn impl_Pair_oneActive.E k Go.Proofs.Tryz.f31 impl_Pair_oneActive.sg impl_Pair_oneActive.hd (runL k impl_Pair_oneActive.hd (impl_Pair_oneActive.lps k)) x = impl_Pair_oneActive.F k x := by kernel_rfl
theorem impl_Pair_oneActive.ok (k : Nat) : Contract Tryz.prog 31 impl_Pair_oneActive.sg (impl_Pair_oneActive.F k) := ok_of (E := impl_Pair_oneActive.E) (tysOk _ _) (eqsOk _) ⟨slices_ContainsFunc_impl_Wire_impl_Wire.ok k, impl_Pair_oneActive_1.ok k, impl_Pair_oneActive_2.ok k, trivial⟩ Tryz.func31 rfl (by kernel_rfl) (impl_Pair_oneActive.loops k) (impl_Pair_oneActive.den k)
def impl_OneActive.sg : Sig := ⟨[.b kPair], [(.bool, .rd)]⟩
def impl_OneActive.E : Env := ⟨tys, bys, [(30, ⟨impl_PairFault.sg, impl_PairFault.F⟩), (31, ⟨impl_Pair_oneActive.sg, impl_Pair_oneActive.F⟩)], eqs⟩
def impl_OneActive.F (k : Nat) (x : ((((Int × (Int × (Int × Unit))) × (Int × ((List ((Int × (Int × Unit)) × (Int × (Int × (Int × (Bool × (Int × (Int × Unit)))))))) × ((List ((Int × (Int × Unit)) × (Int × (Int × (Int × (Bool × (Int × (Int × Unit)))))))) × Unit)))) × ((List (Int × (Bool × (Int × (Int × ((List (Int × ((Int × (Int × ((List Int) × Unit))) × Unit))) × (Int × (Int × (Int × (Int × Unit)))))))))) × ((List (Int × ((List Int) × (Int × ((List Int) × Unit))))) × ((List (Int × (Int × (Int × (Int × (Int × (Bool × ((Int × ((Int × (Int × ((List Int) × Unit))) × Unit)) × Unit)))))))) × ((List (Int × ((Int × (Int × ((List Int) × Unit))) × Unit))) × Unit))))) × Unit)) : Option ((Bool × Unit) × Unit) :=
  (impl_PairFault.F k x).bind fun y0 =>
  bif (y0.1.1 == (0 : Int)) then
  ((impl_Pair_oneActive.F k x).bind fun y1 =>
    some y1)
  else some ((false, ()), ())
def impl_OneActive.hd : Hints := ⟨[], [], [2], [0, 1], []⟩
def impl_OneActive.lps (k : Nat) : List (Nat × Lp impl_OneActive.sg.Out) := []
theorem impl_OneActive.loops (k : Nat) : LoopsOk impl_OneActive.E k impl_OneActive.hd (impl_OneActive.lps k) (loopsOf (Go.Proofs.Tryz.f10.body.getD .skip)) := trivial
theorem impl_OneActive.den (k : Nat) (x : Sig.In impl_OneActive.sg.ps) : denFn impl_OneActive.E k Go.Proofs.Tryz.f10 impl_OneActive.sg impl_OneActive.hd (runL k impl_OneActive.hd (impl_OneActive.lps k)) x = impl_OneActive.F k x := by kernel_rfl
theorem impl_OneActive.ok (k : Nat) : Contract Tryz.prog 10 impl_OneActive.sg (impl_OneActive.F k) := ok_of (E := impl_OneActive.E) (tysOk _ _) (eqsOk _) ⟨impl_PairFault.ok k, impl_Pair_oneActive.ok k, trivial⟩ Tryz.func10 rfl (by kernel_rfl) (impl_OneActive.loops k) (impl_OneActive.den k)
def laws_eqConfig.sg : Sig := ⟨[.b kConfig, .b kConfig], [(.bool, .rd)]⟩
def laws_eqConfig.E : Env := ⟨tys, bys, [], eqs⟩
def laws_eqConfig.F (k : Nat) (x : ((Int × (Int × (Int × Unit))) × ((Int × (Int × (Int × Unit))) × Unit))) : Option ((Bool × Unit) × Unit) :=
  bif (x.1.1 != x.2.1.1) then
  (some ((false, ()), ()))
  else bif (x.1.2.1 != x.2.1.2.1) then
    (some ((false, ()), ()))
    else bif (x.1.2.2.1 != x.2.1.2.2.1) then
      (some ((false, ()), ()))
      else some ((true, ()), ())
def laws_eqConfig.hd : Hints := ⟨[], [], [4], [0, 1, 2, 3], []⟩
def laws_eqConfig.lps (k : Nat) : List (Nat × Lp laws_eqConfig.sg.Out) := []
theorem laws_eqConfig.loops (k : Nat) : LoopsOk laws_eqConfig.E k laws_eqConfig.hd (laws_eqConfig.lps k) (loopsOf (Go.Proofs.Tryz.f70.body.getD .skip)) := trivial
theorem laws_eqConfig.den (k : Nat) (x : Sig.In laws_eqConfig.sg.ps) : denFn laws_eqConfig.E k Go.Proofs.Tryz.f70 laws_eqConfig.sg laws_eqConfig.hd (runL k laws_eqConfig.hd (laws_eqConfig.lps k)) x = laws_eqConfig.F k x := by kernel_rfl
theorem laws_eqConfig.ok (k : Nat) : Contract Tryz.prog 70 laws_eqConfig.sg (laws_eqConfig.F k) := ok_of (E := laws_eqConfig.E) (tysOk _ _) (eqsOk _) trivial Tryz.func70 rfl (by kernel_rfl) (laws_eqConfig.loops k) (laws_eqConfig.den k)
def laws_eqPrefix.sg : Sig := ⟨[.b kPrefix, .b kPrefix], [(.bool, .rd)]⟩
def laws_eqPrefix.E : Env := ⟨tys, bys, [], eqs⟩
def laws_eqPrefix.F (k : Nat) (x : ((Int × (Int × Unit)) × ((Int × (Int × Unit)) × Unit))) : Option ((Bool × Unit) × Unit) :=
  bif (x.1.1 != x.2.1.1) then
  (some ((false, ()), ()))
  else bif (x.1.2.1 != x.2.1.2.1) then
    (some ((false, ()), ()))
    else some ((true, ()), ())
def laws_eqPrefix.hd : Hints := ⟨[], [], [4], [0, 1, 2, 3], []⟩
def laws_eqPrefix.lps (k : Nat) : List (Nat × Lp laws_eqPrefix.sg.Out) := []
theorem laws_eqPrefix.loops (k : Nat) : LoopsOk laws_eqPrefix.E k laws_eqPrefix.hd (laws_eqPrefix.lps k) (loopsOf (Go.Proofs.Tryz.f125.body.getD .skip)) := trivial
theorem laws_eqPrefix.den (k : Nat) (x : Sig.In laws_eqPrefix.sg.ps) : denFn laws_eqPrefix.E k Go.Proofs.Tryz.f125 laws_eqPrefix.sg laws_eqPrefix.hd (runL k laws_eqPrefix.hd (laws_eqPrefix.lps k)) x = laws_eqPrefix.F k x := by kernel_rfl
theorem laws_eqPrefix.ok (k : Nat) : Contract Tryz.prog 125 laws_eqPrefix.sg (laws_eqPrefix.F k) := ok_of (E := laws_eqPrefix.E) (tysOk _ _) (eqsOk _) trivial Tryz.func125 rfl (by kernel_rfl) (laws_eqPrefix.loops k) (laws_eqPrefix.den k)
def laws_eqRule.sg : Sig := ⟨[.b kRule, .b kRule], [(.bool, .rd)]⟩
def laws_eqRule.E : Env := ⟨tys, bys, [(125, ⟨laws_eqPrefix.sg, laws_eqPrefix.F⟩)], eqs⟩
def laws_eqRule.F (k : Nat) (x : (((Int × (Int × Unit)) × (Int × (Int × (Int × (Bool × (Int × (Int × Unit))))))) × (((Int × (Int × Unit)) × (Int × (Int × (Int × (Bool × (Int × (Int × Unit))))))) × Unit))) : Option ((Bool × Unit) × Unit) :=
  (laws_eqPrefix.F k (x.1.1, x.2.1.1, ())).bind fun y0 =>
  bif (!y0.1.1) then
  (some ((false, ()), ()))
  else bif (x.1.2.1 != x.2.1.2.1) then
    (some ((false, ()), ()))
    else bif (x.1.2.2.1 != x.2.1.2.2.1) then
      (some ((false, ()), ()))
      else bif (x.1.2.2.2.1 != x.2.1.2.2.2.1) then
        (some ((false, ()), ()))
        else bif (!(x.1.2.2.2.2.1 == x.2.1.2.2.2.2.1)) then
          (some ((false, ()), ()))
          else bif (x.1.2.2.2.2.2.1 != x.2.1.2.2.2.2.2.1) then
            (some ((false, ()), ()))
            else bif (x.1.2.2.2.2.2.2.1 != x.2.1.2.2.2.2.2.2.1) then
              (some ((false, ()), ()))
              else some ((true, ()), ())
def laws_eqRule.hd : Hints := ⟨[], [], [4], [0, 1, 2, 3], []⟩
def laws_eqRule.lps (k : Nat) : List (Nat × Lp laws_eqRule.sg.Out) := []
theorem laws_eqRule.loops (k : Nat) : LoopsOk laws_eqRule.E k laws_eqRule.hd (laws_eqRule.lps k) (loopsOf (Go.Proofs.Tryz.f109.body.getD .skip)) := trivial
theorem laws_eqRule.den (k : Nat) (x : Sig.In laws_eqRule.sg.ps) : denFn laws_eqRule.E k Go.Proofs.Tryz.f109 laws_eqRule.sg laws_eqRule.hd (runL k laws_eqRule.hd (laws_eqRule.lps k)) x = laws_eqRule.F k x := by kernel_rfl
theorem laws_eqRule.ok (k : Nat) : Contract Tryz.prog 109 laws_eqRule.sg (laws_eqRule.F k) := ok_of (E := laws_eqRule.E) (tysOk _ _) (eqsOk _) ⟨laws_eqPrefix.ok k, trivial⟩ Tryz.func109 rfl (by kernel_rfl) (laws_eqRule.loops k) (laws_eqRule.den k)
def laws_eqRuleS.sg : Sig := ⟨[.b (.sl kRule), .b (.sl kRule)], [(.bool, .rd)]⟩
def laws_eqRuleS.E : Env := ⟨tys, bys, [(109, ⟨laws_eqRule.sg, laws_eqRule.F⟩)], eqs⟩
def laws_eqRuleS.l4 {ρ : Type} (k : Nat) (c0 : (Bool × Unit) → Option ρ) (c1 : Unit → Option ρ) : Nat → List ((Int × (Int × Unit)) × (Int × (Int × (Int × (Bool × (Int × (Int × Unit))))))) → List ((Int × (Int × Unit)) × (Int × (Int × (Int × (Bool × (Int × (Int × Unit))))))) → Int → Option ρ
  | 0 => fun _ _ _ => none
  | n + 1 => fun x0 x1 x2 => 
    bif (decide ((x2 < (((List.length x0) : Nat) : Int)))) then
    (bif (Go.Dn.inB x2 (((List.length x0) : Nat) : Int)) then
      (Go.Dn.share (List.getD x0 (Int.toNat x2) (((0 : Int), ((0 : Int), ())), ((0 : Int), ((0 : Int), ((0 : Int), (false, ((0 : Int), ((0 : Int), ())))))))) fun s0 =>
        bif (Go.Dn.inB x2 (((List.length x1) : Nat) : Int)) then
        (Go.Dn.share (List.getD x1 (Int.toNat x2) (((0 : Int), ((0 : Int), ())), ((0 : Int), ((0 : Int), ((0 : Int), (false, ((0 : Int), ((0 : Int), ())))))))) fun s1 =>
          (laws_eqRule.F k (s0, s1, ())).bind fun y2 =>
          bif (!y2.1.1) then
          (c0 (false, ()))
          else laws_eqRuleS.l4 k c0 c1 n x0 x1 (IntKind.wrap .i64 (x2 + (1 : Int))))
        else none)
      else none)
    else c1 (())
def laws_eqRuleS.F (k : Nat) (x : ((List ((Int × (Int × Unit)) × (Int × (Int × (Int × (Bool × (Int × (Int × Unit)))))))) × ((List ((Int × (Int × Unit)) × (Int × (Int × (Int × (Bool × (Int × (Int × Unit)))))))) × Unit))) : Option ((Bool × Unit) × Unit) :=
  bif ((((List.length x.1) : Nat) : Int) != (((List.length x.2.1) : Nat) : Int)) then
  (some ((false, ()), ()))
  else laws_eqRuleS.l4 k (fun e3 =>
      some (e3, ())) (fun e4 =>
      some ((true, ()), ())) k x.1 x.2.1 (0 : Int)
def laws_eqRuleS.hd : Hints := ⟨[(4, ⟨[0, 1, 5], []⟩)], [(0, []), (1, [0, 1, 5])], [4], [0, 1, 5], [(6, [0, 0, 3, 7, 0, 0, 48, 112, 255, 511])]⟩
def laws_eqRuleS.lps (k : Nat) : List (Nat × Lp laws_eqRuleS.sg.Out) := [(4, ⟨[.l kRule, .l kRule, .i], fun x => (fun x0 x1 x2 => ⟨[(0, .v false [.fz kRule x0]), (1, .v false [.fz kRule x1]), (5, .v false [.int .i64 x2])], [], []⟩) x.1 x.2.1 x.2.2.1, fun C n x => laws_eqRuleS.l4 k (fun y => C .ret ((fun y0 => ⟨[(4, .v false [.bool y0])], [], []⟩) y.1)) (fun _ => C (.exit 0) ⟨[], [], []⟩) n x.1 x.2.1 x.2.2.1⟩)]
theorem laws_eqRuleS.loops (k : Nat) : LoopsOk laws_eqRuleS.E k laws_eqRuleS.hd (laws_eqRuleS.lps k) (loopsOf (Go.Proofs.Tryz.f71.body.getD .skip)) := ⟨⟨fun _ _ => rfl, fun _ _ _ => by kernel_rfl, fun _ => ⟨rfl, rfl⟩⟩, trivial⟩
theorem laws_eqRuleS.den (k : Nat) (x : Sig.In laws_eqRuleS.sg.ps) : denFn laws_eqRuleS.E k Go.Proofs.Tryz.f71 laws_eqRuleS.sg laws_eqRuleS.hd (runL k laws_eqRuleS.hd (laws_eqRuleS.lps k)) x = laws_eqRuleS.F k x := by kernel_rfl
theorem laws_eqRuleS.ok (k : Nat) : Contract Tryz.prog 71 laws_eqRuleS.sg (laws_eqRuleS.F k) := ok_of (E := laws_eqRuleS.E) (tysOk _ _) (eqsOk _) ⟨laws_eqRule.ok k, trivial⟩ Tryz.func71 rfl (by kernel_rfl) (laws_eqRuleS.loops k) (laws_eqRuleS.den k)
def laws_eqSettings.sg : Sig := ⟨[.b kSettings, .b kSettings], [(.bool, .rd)]⟩
def laws_eqSettings.E : Env := ⟨tys, bys, [(70, ⟨laws_eqConfig.sg, laws_eqConfig.F⟩), (71, ⟨laws_eqRuleS.sg, laws_eqRuleS.F⟩)], eqs⟩
def laws_eqSettings.F (k : Nat) (x : (((Int × (Int × (Int × Unit))) × (Int × ((List ((Int × (Int × Unit)) × (Int × (Int × (Int × (Bool × (Int × (Int × Unit)))))))) × ((List ((Int × (Int × Unit)) × (Int × (Int × (Int × (Bool × (Int × (Int × Unit)))))))) × Unit)))) × (((Int × (Int × (Int × Unit))) × (Int × ((List ((Int × (Int × Unit)) × (Int × (Int × (Int × (Bool × (Int × (Int × Unit)))))))) × ((List ((Int × (Int × Unit)) × (Int × (Int × (Int × (Bool × (Int × (Int × Unit)))))))) × Unit)))) × Unit))) : Option ((Bool × Unit) × Unit) :=
  (laws_eqConfig.F k (x.1.1, x.2.1.1, ())).bind fun y0 =>
  bif (!y0.1.1) then
  (some ((false, ()), ()))
  else bif (x.1.2.1 != x.2.1.2.1) then
    (some ((false, ()), ()))
    else (laws_eqRuleS.F k (x.1.2.2.1, x.2.1.2.2.1, ())).bind fun y1 =>
      bif (!y1.1.1) then
      (some ((false, ()), ()))
      else (laws_eqRuleS.F k (x.1.2.2.2.1, x.2.1.2.2.2)).bind fun y2 =>
        bif (!y2.1.1) then
        (some ((false, ()), ()))
        else some ((true, ()), ())
def laws_eqSettings.hd : Hints := ⟨[], [], [4], [0, 1, 2, 3], []⟩
def laws_eqSettings.lps (k : Nat) : List (Nat × Lp laws_eqSettings.sg.Out) := []
theorem laws_eqSettings.loops (k : Nat) : LoopsOk laws_eqSettings.E k laws_eqSettings.hd (laws_eqSettings.lps k) (loopsOf (Go.Proofs.Tryz.f32.body.getD .skip)) := trivial
theorem laws_eqSettings.den (k : Nat) (x : Sig.In laws_eqSettings.sg.ps) : denFn laws_eqSettings.E k Go.Proofs.Tryz.f32 laws_eqSettings.sg laws_eqSettings.hd (runL k laws_eqSettings.hd (laws_eqSettings.lps k)) x = laws_eqSettings.F k x := by kernel_rfl
theorem laws_eqSettings.ok (k : Nat) : Contract Tryz.prog 32 laws_eqSettings.sg (laws_eqSettings.F k) := ok_of (E := laws_eqSettings.E) (tysOk _ _) (eqsOk _) ⟨laws_eqConfig.ok k, laws_eqRuleS.ok k, trivial⟩ Tryz.func32 rfl (by kernel_rfl) (laws_eqSettings.loops k) (laws_eqSettings.den k)
def laws_eqByteS.sg : Sig := ⟨[.b (.sl (.int .u8)), .b (.sl (.int .u8))], [(.bool, .rd)]⟩
def laws_eqByteS.E : Env := ⟨tys, bys, [], eqs⟩
def laws_eqByteS.l4 {ρ : Type} (k : Nat) (c0 : (Bool × Unit) → Option ρ) (c1 : Unit → Option ρ) : Nat → List Int → List Int → Int → Option ρ
  | 0 => fun _ _ _ => none
  | n + 1 => fun x0 x1 x2 => 
    bif (decide ((x2 < (((List.length x0) : Nat) : Int)))) then
    (bif (Go.Dn.inB x2 (((List.length x0) : Nat) : Int)) then
      (Go.Dn.share (List.getD x0 (Int.toNat x2) (0 : Int)) fun s0 =>
        bif (Go.Dn.inB x2 (((List.length x1) : Nat) : Int)) then
        (Go.Dn.share (List.getD x1 (Int.toNat x2) (0 : Int)) fun s1 =>
          bif (s0 != s1) then
          (c0 (false, ()))
          else laws_eqByteS.l4 k c0 c1 n x0 x1 (IntKind.wrap .i64 (x2 + (1 : Int))))
        else none)
      else none)
    else c1 (())
def laws_eqByteS.F (k : Nat) (x : ((List Int) × ((List Int) × Unit))) : Option ((Bool × Unit) × Unit) :=
  bif ((((List.length x.1) : Nat) : Int) != (((List.length x.2.1) : Nat) : Int)) then
  (some ((false, ()), ()))
  else laws_eqByteS.l4 k (fun e2 =>
      some (e2, ())) (fun e3 =>
      some ((true, ()), ())) k x.1 x.2.1 (0 : Int)
def laws_eqByteS.hd : Hints := ⟨[(4, ⟨[0, 1, 5], []⟩)], [(0, []), (1, [0, 1, 5])], [4], [0, 1, 5], [(6, [0, 0, 3, 7, 0, 0, 48, 112, 255])]⟩
def laws_eqByteS.lps (k : Nat) : List (Nat × Lp laws_eqByteS.sg.Out) := [(4, ⟨[.l (.int .u8), .l (.int .u8), .i], fun x => (fun x0 x1 x2 => ⟨[(0, .v false [.fz (.int .u8) x0]), (1, .v false [.fz (.int .u8) x1]), (5, .v false [.int .i64 x2])], [], []⟩) x.1 x.2.1 x.2.2.1, fun C n x => laws_eqByteS.l4 k (fun y => C .ret ((fun y0 => ⟨[(4, .v false [.bool y0])], [], []⟩) y.1)) (fun _ => C (.exit 0) ⟨[], [], []⟩) n x.1 x.2.1 x.2.2.1⟩)]
theorem laws_eqByteS.loops (k : Nat) : LoopsOk laws_eqByteS.E k laws_eqByteS.hd (laws_eqByteS.lps k) (loopsOf (Go.Proofs.Tryz.f110.body.getD .skip)) := ⟨⟨fun _ _ => rfl, fun _ _ _ => by kernel_rfl, fun _ => ⟨rfl, rfl⟩⟩, trivial⟩
theorem laws_eqByteS.den (k : Nat) (x : Sig.In laws_eqByteS.sg.ps) : denFn laws_eqByteS.E k Go.Proofs.Tryz.f110 laws_eqByteS.sg laws_eqByteS.hd (runL k laws_eqByteS.hd (laws_eqByteS.lps k)) x = laws_eqByteS.F k x := by kernel_rfl
theorem laws_eqByteS.ok (k : Nat) : Contract Tryz.prog 110 laws_eqByteS.sg (laws_eqByteS.F k) := ok_of (E := laws_eqByteS.E) (tysOk _ _) (eqsOk _) trivial Tryz.func110 rfl (by kernel_rfl) (laws_eqByteS.loops k) (laws_eqByteS.den k)
def laws_eqEvent.sg : Sig := ⟨[.b kEvent, .b kEvent], [(.bool, .rd)]⟩
def laws_eqEvent.E : Env := ⟨tys, bys, [(110, ⟨laws_eqByteS.sg, laws_eqByteS.F⟩)], eqs⟩
def laws_eqEvent.F (k : Nat) (x : ((Int × (Int × ((List Int) × Unit))) × ((Int × (Int × ((List Int) × Unit))) × Unit))) : Option ((Bool × Unit) × Unit) :=
  bif (x.1.1 != x.2.1.1) then
  (some ((false, ()), ()))
  else bif (x.1.2.1 != x.2.1.2.1) then
    (some ((false, ()), ()))
    else (laws_eqByteS.F k (x.1.2.2.1, x.2.1.2.2)).bind fun y0 =>
      bif (!y0.1.1) then
      (some ((false, ()), ()))
      else some ((true, ()), ())
def laws_eqEvent.hd : Hints := ⟨[], [], [4], [0, 1, 2, 3], []⟩
def laws_eqEvent.lps (k : Nat) : List (Nat × Lp laws_eqEvent.sg.Out) := []
theorem laws_eqEvent.loops (k : Nat) : LoopsOk laws_eqEvent.E k laws_eqEvent.hd (laws_eqEvent.lps k) (loopsOf (Go.Proofs.Tryz.f111.body.getD .skip)) := trivial
theorem laws_eqEvent.den (k : Nat) (x : Sig.In laws_eqEvent.sg.ps) : denFn laws_eqEvent.E k Go.Proofs.Tryz.f111 laws_eqEvent.sg laws_eqEvent.hd (runL k laws_eqEvent.hd (laws_eqEvent.lps k)) x = laws_eqEvent.F k x := by kernel_rfl
theorem laws_eqEvent.ok (k : Nat) : Contract Tryz.prog 111 laws_eqEvent.sg (laws_eqEvent.F k) := ok_of (E := laws_eqEvent.E) (tysOk _ _) (eqsOk _) ⟨laws_eqByteS.ok k, trivial⟩ Tryz.func111 rfl (by kernel_rfl) (laws_eqEvent.loops k) (laws_eqEvent.den k)
def laws_eqEntry.sg : Sig := ⟨[.b kEntry, .b kEntry], [(.bool, .rd)]⟩
def laws_eqEntry.E : Env := ⟨tys, bys, [(111, ⟨laws_eqEvent.sg, laws_eqEvent.F⟩)], eqs⟩
def laws_eqEntry.F (k : Nat) (x : ((Int × ((Int × (Int × ((List Int) × Unit))) × Unit)) × ((Int × ((Int × (Int × ((List Int) × Unit))) × Unit)) × Unit))) : Option ((Bool × Unit) × Unit) :=
  bif (x.1.1 != x.2.1.1) then
  (some ((false, ()), ()))
  else (laws_eqEvent.F k (x.1.2.1, x.2.1.2)).bind fun y0 =>
    bif (!y0.1.1) then
    (some ((false, ()), ()))
    else some ((true, ()), ())
def laws_eqEntry.hd : Hints := ⟨[], [], [4], [0, 1, 2, 3], []⟩
def laws_eqEntry.lps (k : Nat) : List (Nat × Lp laws_eqEntry.sg.Out) := []
theorem laws_eqEntry.loops (k : Nat) : LoopsOk laws_eqEntry.E k laws_eqEntry.hd (laws_eqEntry.lps k) (loopsOf (Go.Proofs.Tryz.f75.body.getD .skip)) := trivial
theorem laws_eqEntry.den (k : Nat) (x : Sig.In laws_eqEntry.sg.ps) : denFn laws_eqEntry.E k Go.Proofs.Tryz.f75 laws_eqEntry.sg laws_eqEntry.hd (runL k laws_eqEntry.hd (laws_eqEntry.lps k)) x = laws_eqEntry.F k x := by kernel_rfl
theorem laws_eqEntry.ok (k : Nat) : Contract Tryz.prog 75 laws_eqEntry.sg (laws_eqEntry.F k) := ok_of (E := laws_eqEntry.E) (tysOk _ _) (eqsOk _) ⟨laws_eqEvent.ok k, trivial⟩ Tryz.func75 rfl (by kernel_rfl) (laws_eqEntry.loops k) (laws_eqEntry.den k)
def laws_eqEntryS.sg : Sig := ⟨[.b (.sl kEntry), .b (.sl kEntry)], [(.bool, .rd)]⟩
def laws_eqEntryS.E : Env := ⟨tys, bys, [(75, ⟨laws_eqEntry.sg, laws_eqEntry.F⟩)], eqs⟩
def laws_eqEntryS.l4 {ρ : Type} (k : Nat) (c0 : (Bool × Unit) → Option ρ) (c1 : Unit → Option ρ) : Nat → List (Int × ((Int × (Int × ((List Int) × Unit))) × Unit)) → List (Int × ((Int × (Int × ((List Int) × Unit))) × Unit)) → Int → Option ρ
  | 0 => fun _ _ _ => none
  | n + 1 => fun x0 x1 x2 => 
    bif (decide ((x2 < (((List.length x0) : Nat) : Int)))) then
    (bif (Go.Dn.inB x2 (((List.length x0) : Nat) : Int)) then
      (Go.Dn.share (List.getD x0 (Int.toNat x2) ((0 : Int), (((0 : Int), ((0 : Int), (([] : List Int), ()))), ()))) fun s0 =>
        bif (Go.Dn.inB x2 (((List.length x1) : Nat) : Int)) then
        (Go.Dn.share (List.getD x1 (Int.toNat x2) ((0 : Int), (((0 : Int), ((0 : Int), (([] : List Int), ()))), ()))) fun s1 =>
          (laws_eqEntry.F k (s0, s1, ())).bind fun y2 =>
          bif (!y2.1.1) then
          (c0 (false, ()))
          else laws_eqEntryS.l4 k c0 c1 n x0 x1 (IntKind.wrap .i64 (x2 + (1 : Int))))
        else none)
      else none)
    else c1 (())
def laws_eqEntryS.F (k : Nat) (x : ((List (Int × ((Int × (Int × ((List Int) × Unit))) × Unit))) × ((List (Int × ((Int × (Int × ((List Int) × Unit))) × Unit))) × Unit))) : Option ((Bool × Unit) × Unit) :=
  bif ((((List.length x.1) : Nat) : Int) != (((List.length x.2.1) : Nat) : Int)) then
  (some ((false, ()), ()))
  else laws_eqEntryS.l4 k (fun e3 =>
      some (e3, ())) (fun e4 =>
      some ((true, ()), ())) k x.1 x.2.1 (0 : Int)
def laws_eqEntryS.hd : Hints := ⟨[(4, ⟨[0, 1, 5], []⟩)], [(0, []), (1, [0, 1, 5])], [4], [0, 1, 5], [(6, [0, 0, 3, 7, 0, 0, 48, 112, 255, 511])]⟩
def laws_eqEntryS.lps (k : Nat) : List (Nat × Lp laws_eqEntryS.sg.Out) := [(4, ⟨[.l kEntry, .l kEntry, .i], fun x => (fun x0 x1 x2 => ⟨[(0, .v false [.fz kEntry x0]), (1, .v false [.fz kEntry x1]), (5, .v false [.int .i64 x2])], [], []⟩) x.1 x.2.1 x.2.2.1, fun C n x => laws_eqEntryS.l4 k (fun y => C .ret ((fun y0 => ⟨[(4, .v false [.bool y0])], [], []⟩) y.1)) (fun _ => C (.exit 0) ⟨[], [], []⟩) n x.1 x.2.1 x.2.2.1⟩)]
theorem laws_eqEntryS.loops (k : Nat) : LoopsOk laws_eqEntryS.E k laws_eqEntryS.hd (laws_eqEntryS.lps k) (loopsOf (Go.Proofs.Tryz.f36.body.getD .skip)) := ⟨⟨fun _ _ => rfl, fun _ _ _ => by kernel_rfl, fun _ => ⟨rfl, rfl⟩⟩, trivial⟩
theorem laws_eqEntryS.den (k : Nat) (x : Sig.In laws_eqEntryS.sg.ps) : denFn laws_eqEntryS.E k Go.Proofs.Tryz.f36 laws_eqEntryS.sg laws_eqEntryS.hd (runL k laws_eqEntryS.hd (laws_eqEntryS.lps k)) x = laws_eqEntryS.F k x := by kernel_rfl
theorem laws_eqEntryS.ok (k : Nat) : Contract Tryz.prog 36 laws_eqEntryS.sg (laws_eqEntryS.F k) := ok_of (E := laws_eqEntryS.E) (tysOk _ _) (eqsOk _) ⟨laws_eqEntry.ok k, trivial⟩ Tryz.func36 rfl (by kernel_rfl) (laws_eqEntryS.loops k) (laws_eqEntryS.den k)
def laws_eqNode.sg : Sig := ⟨[.b kNode, .b kNode], [(.bool, .rd)]⟩
def laws_eqNode.E : Env := ⟨tys, bys, [(36, ⟨laws_eqEntryS.sg, laws_eqEntryS.F⟩)], eqs⟩
def laws_eqNode.F (k : Nat) (x : ((Int × (Bool × (Int × (Int × ((List (Int × ((Int × (Int × ((List Int) × Unit))) × Unit))) × (Int × (Int × (Int × (Int × Unit))))))))) × ((Int × (Bool × (Int × (Int × ((List (Int × ((Int × (Int × ((List Int) × Unit))) × Unit))) × (Int × (Int × (Int × (Int × Unit))))))))) × Unit))) : Option ((Bool × Unit) × Unit) :=
  bif (x.1.1 != x.2.1.1) then
  (some ((false, ()), ()))
  else bif (!(x.1.2.1 == x.2.1.2.1)) then
    (some ((false, ()), ()))
    else bif (x.1.2.2.1 != x.2.1.2.2.1) then
      (some ((false, ()), ()))
      else bif (x.1.2.2.2.1 != x.2.1.2.2.2.1) then
        (some ((false, ()), ()))
        else (laws_eqEntryS.F k (x.1.2.2.2.2.1, x.2.1.2.2.2.2.1, ())).bind fun y0 =>
          bif (!y0.1.1) then
          (some ((false, ()), ()))
          else bif (x.1.2.2.2.2.2.1 != x.2.1.2.2.2.2.2.1) then
            (some ((false, ()), ()))
            else bif (x.1.2.2.2.2.2.2.1 != x.2.1.2.2.2.2.2.2.1) then
              (some ((false, ()), ()))
              else bif (x.1.2.2.2.2.2.2.2.1 != x.2.1.2.2.2.2.2.2.2.1) then
                (some ((false, ()), ()))
                else bif (x.1.2.2.2.2.2.2.2.2.1 != x.2.1.2.2.2.2.2.2.2.2.1) then
                  (some ((false, ()), ()))
                  else some ((true, ()), ())
def laws_eqNode.hd : Hints := ⟨[], [], [4], [0, 1, 2, 3], []⟩
def laws_eqNode.lps (k : Nat) : List (Nat × Lp laws_eqNode.sg.Out) := []
theorem laws_eqNode.loops (k : Nat) : LoopsOk laws_eqNode.E k laws_eqNode.hd (laws_eqNode.lps k) (loopsOf (Go.Proofs.Tryz.f72.body.getD .skip)) := trivial
theorem laws_eqNode.den (k : Nat) (x : Sig.In laws_eqNode.sg.ps) : denFn laws_eqNode.E k Go.Proofs.Tryz.f72 laws_eqNode.sg laws_eqNode.hd (runL k laws_eqNode.hd (laws_eqNode.lps k)) x = laws_eqNode.F k x := by kernel_rfl
theorem laws_eqNode.ok (k : Nat) : Contract Tryz.prog 72 laws_eqNode.sg (laws_eqNode.F k) := ok_of (E := laws_eqNode.E) (tysOk _ _) (eqsOk _) ⟨laws_eqEntryS.ok k, trivial⟩ Tryz.func72 rfl (by kernel_rfl) (laws_eqNode.loops k) (laws_eqNode.den k)
def laws_eqNodeS.sg : Sig := ⟨[.b (.sl kNode), .b (.sl kNode)], [(.bool, .rd)]⟩
def laws_eqNodeS.E : Env := ⟨tys, bys, [(72, ⟨laws_eqNode.sg, laws_eqNode.F⟩)], eqs⟩
def laws_eqNodeS.l4 {ρ : Type} (k : Nat) (c0 : (Bool × Unit) → Option ρ) (c1 : Unit → Option ρ) : Nat → List (Int × (Bool × (Int × (Int × ((List (Int × ((Int × (Int × ((List Int) × Unit))) × Unit))) × (Int × (Int × (Int × (Int × Unit))))))))) → List (Int × (Bool × (Int × (Int × ((List (Int × ((Int × (Int × ((List Int) × Unit))) × Unit))) × (Int × (Int × (Int × (Int × Unit))))))))) → Int → Option ρ
  | 0 => fun _ _ _ => none
  | n + 1 => fun x0 x1 x2 => 
    bif (decide ((x2 < (((List.length x0) : Nat) : Int)))) then
    (bif (Go.Dn.inB x2 (((List.length x0) : Nat) : Int)) then
      (Go.Dn.share (List.getD x0 (Int.toNat x2) ((0 : Int), (false, ((0 : Int), ((0 : Int), (([] : List (Int × ((Int × (Int × ((List Int) × Unit))) × Unit))), ((0 : Int), ((0 : Int), ((0 : Int), ((0 : Int), ())))))))))) fun s0 =>
        bif (Go.Dn.inB x2 (((List.length x1) : Nat) : Int)) then
        (Go.Dn.share (List.getD x1 (Int.toNat x2) ((0 : Int), (false, ((0 : Int), ((0 : Int), (([] : List (Int × ((Int × (Int × ((List Int) × Unit))) × Unit))), ((0 : Int), ((0 : Int), ((0 : Int), ((0 : Int), ())))))))))) fun s1 =>
          (laws_eqNode.F k (s0, s1, ())).bind fun y2 =>
          bif (!y2.1.1) then
          (c0 (false, ()))
          else laws_eqNodeS.l4 k c0 c1 n x0 x1 (IntKind.wrap .i64 (x2 + (1 : Int))))
        else none)
      else none)
    else c1 (())
def laws_eqNodeS.F (k : Nat) (x : ((List (Int × (Bool × (Int × (Int × ((List (Int × ((Int × (Int × ((List Int) × Unit))) × Unit))) × (Int × (Int × (Int × (Int × Unit)))))))))) × ((List (Int × (Bool × (Int × (Int × ((List (Int × ((Int × (Int × ((List Int) × Unit))) × Unit))) × (Int × (Int × (Int × (Int × Unit)))))))))) × Unit))) : Option ((Bool × Unit) × Unit) :=
  bif ((((List.length x.1) : Nat) : Int) != (((List.length x.2.1) : Nat) : Int)) then
  (some ((false, ()), ()))
  else laws_eqNodeS.l4 k (fun e3 =>
      some (e3, ())) (fun e4 =>
      some ((true, ()), ())) k x.1 x.2.1 (0 : Int)
def laws_eqNodeS.hd : Hints := ⟨[(4, ⟨[0, 1, 5], []⟩)], [(0, []), (1, [0, 1, 5])], [4], [0, 1, 5], [(6, [0, 0, 3, 7, 0, 0, 48, 112, 255, 511])]⟩
def laws_eqNodeS.lps (k : Nat) : List (Nat × Lp laws_eqNodeS.sg.Out) := [(4, ⟨[.l kNode, .l kNode, .i], fun x => (fun x0 x1 x2 => ⟨[(0, .v false [.fz kNode x0]), (1, .v false [.fz kNode x1]), (5, .v false [.int .i64 x2])], [], []⟩) x.1 x.2.1 x.2.2.1, fun C n x => laws_eqNodeS.l4 k (fun y => C .ret ((fun y0 => ⟨[(4, .v false [.bool y0])], [], []⟩) y.1)) (fun _ => C (.exit 0) ⟨[], [], []⟩) n x.1 x.2.1 x.2.2.1⟩)]
theorem laws_eqNodeS.loops (k : Nat) : LoopsOk laws_eqNodeS.E k laws_eqNodeS.hd (laws_eqNodeS.lps k) (loopsOf (Go.Proofs.Tryz.f33.body.getD .skip)) := ⟨⟨fun _ _ => rfl, fun _ _ _ => by kernel_rfl, fun _ => ⟨rfl, rfl⟩⟩, trivial⟩
theorem laws_eqNodeS.den (k : Nat) (x : Sig.In laws_eqNodeS.sg.ps) : denFn laws_eqNodeS.E k Go.Proofs.Tryz.f33 laws_eqNodeS.sg laws_eqNodeS.hd (runL k laws_eqNodeS.hd (laws_eqNodeS.lps k)) x = laws_eqNodeS.F k x := by kernel_rfl
theorem laws_eqNodeS.ok (k : Nat) : Contract Tryz.prog 33 laws_eqNodeS.sg (laws_eqNodeS.F k) := ok_of (E := laws_eqNodeS.E) (tysOk _ _) (eqsOk _) ⟨laws_eqNode.ok k, trivial⟩ Tryz.func33 rfl (by kernel_rfl) (laws_eqNodeS.loops k) (laws_eqNodeS.den k)
def laws_eqWire.sg : Sig := ⟨[.b kWire, .b kWire], [(.bool, .rd)]⟩
def laws_eqWire.E : Env := ⟨tys, bys, [(110, ⟨laws_eqByteS.sg, laws_eqByteS.F⟩)], eqs⟩
def laws_eqWire.F (k : Nat) (x : ((Int × ((List Int) × (Int × ((List Int) × Unit)))) × ((Int × ((List Int) × (Int × ((List Int) × Unit)))) × Unit))) : Option ((Bool × Unit) × Unit) :=
  bif (x.1.1 != x.2.1.1) then
  (some ((false, ()), ()))
  else (laws_eqByteS.F k (x.1.2.1, x.2.1.2.1, ())).bind fun y0 =>
    bif (!y0.1.1) then
    (some ((false, ()), ()))
    else bif (x.1.2.2.1 != x.2.1.2.2.1) then
      (some ((false, ()), ()))
      else (laws_eqByteS.F k (x.1.2.2.2.1, x.2.1.2.2.2)).bind fun y1 =>
        bif (!y1.1.1) then
        (some ((false, ()), ()))
        else some ((true, ()), ())
def laws_eqWire.hd : Hints := ⟨[], [], [4], [0, 1, 2, 3], []⟩
def laws_eqWire.lps (k : Nat) : List (Nat × Lp laws_eqWire.sg.Out) := []
theorem laws_eqWire.loops (k : Nat) : LoopsOk laws_eqWire.E k laws_eqWire.hd (laws_eqWire.lps k) (loopsOf (Go.Proofs.Tryz.f73.body.getD .skip)) := trivial
theorem laws_eqWire.den (k : Nat) (x : Sig.In laws_eqWire.sg.ps) : denFn laws_eqWire.E k Go.Proofs.Tryz.f73 laws_eqWire.sg laws_eqWire.hd (runL k laws_eqWire.hd (laws_eqWire.lps k)) x = laws_eqWire.F k x := by kernel_rfl
theorem laws_eqWire.ok (k : Nat) : Contract Tryz.prog 73 laws_eqWire.sg (laws_eqWire.F k) := ok_of (E := laws_eqWire.E) (tysOk _ _) (eqsOk _) ⟨laws_eqByteS.ok k, trivial⟩ Tryz.func73 rfl (by kernel_rfl) (laws_eqWire.loops k) (laws_eqWire.den k)

end Go.Proofs.YtliaeahjdenlfaaGreat
set_option linter.unusedVariables false
set_option maxRecDepth 100000
namespace Go.Proofs.YtliaeahjdenlfaaGreat
open Go Go.Dn

def laws_eqWireS.sg : Sig := ⟨[.b (.sl kWire), .b (.sl kWire)], [(.bool, .rd)]⟩
def laws_eqWireS.E : Env := ⟨tys, bys, [(73, ⟨laws_eqWire.sg, laws_eqWire.F⟩)], eqs⟩
def laws_eqWireS.l4 {ρ : Type} (k : Nat) (c0 : (Bool × Unit) → Option ρ) (c1 : Unit → Option ρ) : Nat → List (Int × ((List Int) × (Int × ((List Int) × Unit)))) → List (Int × ((List Int) × (Int × ((List Int) × Unit)))) → Int → Option ρ
  | 0 => fun _ _ _ => none
  | n + 1 => fun x0 x1 x2 => 
    bif (decide ((x2 < (((List.length x0) : Nat) : Int)))) then
    (bif (Go.Dn.inB x2 (((List.length x0) : Nat) : Int)) then
      (Go.Dn.share (List.getD x0 (Int.toNat x2) ((0 : Int), (([] : List Int), ((0 : Int), (([] : List Int), ()))))) fun s0 =>
        bif (Go.Dn.inB x2 (((List.length x1) : Nat) : Int)) then
        (Go.Dn.share (List.getD x1 (Int.toNat x2) ((0 : Int), (([] : List Int), ((0 : Int), (([] : List Int), ()))))) fun s1 =>
          (laws_eqWire.F k (s0, s1, ())).bind fun y2 =>
          bif (!y2.1.1) then
          (c0 (false, ()))
          else laws_eqWireS.l4 k c0 c1 n x0 x1 (IntKind.wrap .i64 (x2 + (1 : Int))))
        else none)
      else none)
    else c1 (())
def laws_eqWireS.F (k : Nat) (x : ((List (Int × ((List Int) × (Int × ((List Int) × Unit))))) × ((List (Int × ((List Int) × (Int × ((List Int) × Unit))))) × Unit))) : Option ((Bool × Unit) × Unit) :=
  bif ((((List.length x.1) : Nat) : Int) != (((List.length x.2.1) : Nat) : Int)) then
  (some ((false, ()), ()))
  else laws_eqWireS.l4 k (fun e3 =>
      some (e3, ())) (fun e4 =>
      some ((true, ()), ())) k x.1 x.2.1 (0 : Int)
def laws_eqWireS.hd : Hints := ⟨[(4, ⟨[0, 1, 5], []⟩)], [(0, []), (1, [0, 1, 5])], [4], [0, 1, 5], [(6, [0, 0, 3, 7, 0, 0, 48, 112, 255, 511])]⟩
def laws_eqWireS.lps (k : Nat) : List (Nat × Lp laws_eqWireS.sg.Out) := [(4, ⟨[.l kWire, .l kWire, .i], fun x => (fun x0 x1 x2 => ⟨[(0, .v false [.fz kWire x0]), (1, .v false [.fz kWire x1]), (5, .v false [.int .i64 x2])], [], []⟩) x.1 x.2.1 x.2.2.1, fun C n x => laws_eqWireS.l4 k (fun y => C .ret ((fun y0 => ⟨[(4, .v false [.bool y0])], [], []⟩) y.1)) (fun _ => C (.exit 0) ⟨[], [], []⟩) n x.1 x.2.1 x.2.2.1⟩)]
theorem laws_eqWireS.loops (k : Nat) : LoopsOk laws_eqWireS.E k laws_eqWireS.hd (laws_eqWireS.lps k) (loopsOf (Go.Proofs.Tryz.f34.body.getD .skip)) := ⟨⟨fun _ _ => rfl, fun _ _ _ => by kernel_rfl, fun _ => ⟨rfl, rfl⟩⟩, trivial⟩
theorem laws_eqWireS.den (k : Nat) (x : Sig.In laws_eqWireS.sg.ps) : denFn laws_eqWireS.E k Go.Proofs.Tryz.f34 laws_eqWireS.sg laws_eqWireS.hd (runL k laws_eqWireS.hd (laws_eqWireS.lps k)) x = laws_eqWireS.F k x := by kernel_rfl
theorem laws_eqWireS.ok (k : Nat) : Contract Tryz.prog 34 laws_eqWireS.sg (laws_eqWireS.F k) := ok_of (E := laws_eqWireS.E) (tysOk _ _) (eqsOk _) ⟨laws_eqWire.ok k, trivial⟩ Tryz.func34 rfl (by kernel_rfl) (laws_eqWireS.loops k) (laws_eqWireS.den k)
def laws_eqMail.sg : Sig := ⟨[.b kMail, .b kMail], [(.bool, .rd)]⟩
def laws_eqMail.E : Env := ⟨tys, bys, [(75, ⟨laws_eqEntry.sg, laws_eqEntry.F⟩)], eqs⟩
def laws_eqMail.F (k : Nat) (x : ((Int × (Int × (Int × (Int × (Int × (Bool × ((Int × ((Int × (Int × ((List Int) × Unit))) × Unit)) × Unit))))))) × ((Int × (Int × (Int × (Int × (Int × (Bool × ((Int × ((Int × (Int × ((List Int) × Unit))) × Unit)) × Unit))))))) × Unit))) : Option ((Bool × Unit) × Unit) :=
  bif (x.1.1 != x.2.1.1) then
  (some ((false, ()), ()))
  else bif (x.1.2.1 != x.2.1.2.1) then
    (some ((false, ()), ()))
    else bif (x.1.2.2.1 != x.2.1.2.2.1) then
      (some ((false, ()), ()))
      else bif (x.1.2.2.2.1 != x.2.1.2.2.2.1) then
        (some ((false, ()), ()))
        else bif (x.1.2.2.2.2.1 != x.2.1.2.2.2.2.1) then
          (some ((false, ()), ()))
          else bif (!(x.1.2.2.2.2.2.1 == x.2.1.2.2.2.2.2.1)) then
            (some ((false, ()), ()))
            else (laws_eqEntry.F k (x.1.2.2.2.2.2.2.1, x.2.1.2.2.2.2.2.2)).bind fun y0 =>
              bif (!y0.1.1) then
              (some ((false, ()), ()))
              else some ((true, ()), ())
def laws_eqMail.hd : Hints := ⟨[], [], [4], [0, 1, 2, 3], []⟩
def laws_eqMail.lps (k : Nat) : List (Nat × Lp laws_eqMail.sg.Out) := []
theorem laws_eqMail.loops (k : Nat) : LoopsOk laws_eqMail.E k laws_eqMail.hd (laws_eqMail.lps k) (loopsOf (Go.Proofs.Tryz.f74.body.getD .skip)) := trivial
theorem laws_eqMail.den (k : Nat) (x : Sig.In laws_eqMail.sg.ps) : denFn laws_eqMail.E k Go.Proofs.Tryz.f74 laws_eqMail.sg laws_eqMail.hd (runL k laws_eqMail.hd (laws_eqMail.lps k)) x = laws_eqMail.F k x := by kernel_rfl
theorem laws_eqMail.ok (k : Nat) : Contract Tryz.prog 74 laws_eqMail.sg (laws_eqMail.F k) := ok_of (E := laws_eqMail.E) (tysOk _ _) (eqsOk _) ⟨laws_eqEntry.ok k, trivial⟩ Tryz.func74 rfl (by kernel_rfl) (laws_eqMail.loops k) (laws_eqMail.den k)
def laws_eqMailS.sg : Sig := ⟨[.b (.sl kMail), .b (.sl kMail)], [(.bool, .rd)]⟩
def laws_eqMailS.E : Env := ⟨tys, bys, [(74, ⟨laws_eqMail.sg, laws_eqMail.F⟩)], eqs⟩
def laws_eqMailS.l4 {ρ : Type} (k : Nat) (c0 : (Bool × Unit) → Option ρ) (c1 : Unit → Option ρ) : Nat → List (Int × (Int × (Int × (Int × (Int × (Bool × ((Int × ((Int × (Int × ((List Int) × Unit))) × Unit)) × Unit))))))) → List (Int × (Int × (Int × (Int × (Int × (Bool × ((Int × ((Int × (Int × ((List Int) × Unit))) × Unit)) × Unit))))))) → Int → Option ρ
  | 0 => fun _ _ _ => none
  | n + 1 => fun x0 x1 x2 => 
    bif (decide ((x2 < (((List.length x0) : Nat) : Int)))) then
    (bif (Go.Dn.inB x2 (((List.length x0) : Nat) : Int)) then
      (Go.Dn.share (List.getD x0 (Int.toNat x2) ((0 : Int), ((0 : Int), ((0 : Int), ((0 : Int), ((0 : Int), (false, (((0 : Int), (((0 : Int), ((0 : Int), (([] : List Int), ()))), ())), ())))))))) fun s0 =>
        bif (Go.Dn.inB x2 (((List.length x1) : Nat) : Int)) then
        (Go.Dn.share (List.getD x1 (Int.toNat x2) ((0 : Int), ((0 : Int), ((0 : Int), ((0 : Int), ((0 : Int), (false, (((0 : Int), (((0 : Int), ((0 : Int), (([] : List Int), ()))), ())), ())))))))) fun s1 =>
          (laws_eqMail.F k (s0, s1, ())).bind fun y2 =>
          bif (!y2.1.1) then
          (c0 (false, ()))
          else laws_eqMailS.l4 k c0 c1 n x0 x1 (IntKind.wrap .i64 (x2 + (1 : Int))))
        else none)
      else none)
    else c1 (())
def laws_eqMailS.F (k : Nat) (x : ((List (Int × (Int × (Int × (Int × (Int × (Bool × ((Int × ((Int × (Int × ((List Int) × Unit))) × Unit)) × Unit)))))))) × ((List (Int × (Int × (Int × (Int × (Int × (Bool × ((Int × ((Int × (Int × ((List Int) × Unit))) × Unit)) × Unit)))))))) × Unit))) : Option ((Bool × Unit) × Unit) :=
  bif ((((List.length x.1) : Nat) : Int) != (((List.length x.2.1) : Nat) : Int)) then
  (some ((false, ()), ()))
  else laws_eqMailS.l4 k (fun e3 =>
      some (e3, ())) (fun e4 =>
      some ((true, ()), ())) k x.1 x.2.1 (0 : Int)
def laws_eqMailS.hd : Hints := ⟨[(4, ⟨[0, 1, 5], []⟩)], [(0, []), (1, [0, 1, 5])], [4], [0, 1, 5], [(6, [0, 0, 3, 7, 0, 0, 48, 112, 255, 511])]⟩
def laws_eqMailS.lps (k : Nat) : List (Nat × Lp laws_eqMailS.sg.Out) := [(4, ⟨[.l kMail, .l kMail, .i], fun x => (fun x0 x1 x2 => ⟨[(0, .v false [.fz kMail x0]), (1, .v false [.fz kMail x1]), (5, .v false [.int .i64 x2])], [], []⟩) x.1 x.2.1 x.2.2.1, fun C n x => laws_eqMailS.l4 k (fun y => C .ret ((fun y0 => ⟨[(4, .v false [.bool y0])], [], []⟩) y.1)) (fun _ => C (.exit 0) ⟨[], [], []⟩) n x.1 x.2.1 x.2.2.1⟩)]
theorem laws_eqMailS.loops (k : Nat) : LoopsOk laws_eqMailS.E k laws_eqMailS.hd (laws_eqMailS.lps k) (loopsOf (Go.Proofs.Tryz.f35.body.getD .skip)) := ⟨⟨fun _ _ => rfl, fun _ _ _ => by kernel_rfl, fun _ => ⟨rfl, rfl⟩⟩, trivial⟩
theorem laws_eqMailS.den (k : Nat) (x : Sig.In laws_eqMailS.sg.ps) : denFn laws_eqMailS.E k Go.Proofs.Tryz.f35 laws_eqMailS.sg laws_eqMailS.hd (runL k laws_eqMailS.hd (laws_eqMailS.lps k)) x = laws_eqMailS.F k x := by kernel_rfl
theorem laws_eqMailS.ok (k : Nat) : Contract Tryz.prog 35 laws_eqMailS.sg (laws_eqMailS.F k) := ok_of (E := laws_eqMailS.E) (tysOk _ _) (eqsOk _) ⟨laws_eqMail.ok k, trivial⟩ Tryz.func35 rfl (by kernel_rfl) (laws_eqMailS.loops k) (laws_eqMailS.den k)
def laws_eqPair.sg : Sig := ⟨[.b kPair, .b kPair], [(.bool, .rd)]⟩
def laws_eqPair.E : Env := ⟨tys, bys, [(32, ⟨laws_eqSettings.sg, laws_eqSettings.F⟩), (33, ⟨laws_eqNodeS.sg, laws_eqNodeS.F⟩), (34, ⟨laws_eqWireS.sg, laws_eqWireS.F⟩), (35, ⟨laws_eqMailS.sg, laws_eqMailS.F⟩), (36, ⟨laws_eqEntryS.sg, laws_eqEntryS.F⟩)], eqs⟩
def laws_eqPair.F (k : Nat) (x : ((((Int × (Int × (Int × Unit))) × (Int × ((List ((Int × (Int × Unit)) × (Int × (Int × (Int × (Bool × (Int × (Int × Unit)))))))) × ((List ((Int × (Int × Unit)) × (Int × (Int × (Int × (Bool × (Int × (Int × Unit)))))))) × Unit)))) × ((List (Int × (Bool × (Int × (Int × ((List (Int × ((Int × (Int × ((List Int) × Unit))) × Unit))) × (Int × (Int × (Int × (Int × Unit)))))))))) × ((List (Int × ((List Int) × (Int × ((List Int) × Unit))))) × ((List (Int × (Int × (Int × (Int × (Int × (Bool × ((Int × ((Int × (Int × ((List Int) × Unit))) × Unit)) × Unit)))))))) × ((List (Int × ((Int × (Int × ((List Int) × Unit))) × Unit))) × Unit))))) × ((((Int × (Int × (Int × Unit))) × (Int × ((List ((Int × (Int × Unit)) × (Int × (Int × (Int × (Bool × (Int × (Int × Unit)))))))) × ((List ((Int × (Int × Unit)) × (Int × (Int × (Int × (Bool × (Int × (Int × Unit)))))))) × Unit)))) × ((List (Int × (Bool × (Int × (Int × ((List (Int × ((Int × (Int × ((List Int) × Unit))) × Unit))) × (Int × (Int × (Int × (Int × Unit)))))))))) × ((List (Int × ((List Int) × (Int × ((List Int) × Unit))))) × ((List (Int × (Int × (Int × (Int × (Int × (Bool × ((Int × ((Int × (Int × ((List Int) × Unit))) × Unit)) × Unit)))))))) × ((List (Int × ((Int × (Int × ((List Int) × Unit))) × Unit))) × Unit))))) × Unit))) : Option ((Bool × Unit) × Unit) :=
  (laws_eqSettings.F k (x.1.1, x.2.1.1, ())).bind fun y0 =>
  bif (!y0.1.1) then
  (some ((false, ()), ()))
  else (laws_eqNodeS.F k (x.1.2.1, x.2.1.2.1, ())).bind fun y1 =>
    bif (!y1.1.1) then
    (some ((false, ()), ()))
    else (laws_eqWireS.F k (x.1.2.2.1, x.2.1.2.2.1, ())).bind fun y2 =>
      bif (!y2.1.1) then
      (some ((false, ()), ()))
      else (laws_eqMailS.F k (x.1.2.2.2.1, x.2.1.2.2.2.1, ())).bind fun y3 =>
        bif (!y3.1.1) then
        (some ((false, ()), ()))
        else (laws_eqEntryS.F k (x.1.2.2.2.2.1, x.2.1.2.2.2.2)).bind fun y4 =>
          bif (!y4.1.1) then
          (some ((false, ()), ()))
          else some ((true, ()), ())
def laws_eqPair.hd : Hints := ⟨[], [], [4], [0, 1, 2, 3], []⟩
def laws_eqPair.lps (k : Nat) : List (Nat × Lp laws_eqPair.sg.Out) := []
theorem laws_eqPair.loops (k : Nat) : LoopsOk laws_eqPair.E k laws_eqPair.hd (laws_eqPair.lps k) (loopsOf (Go.Proofs.Tryz.f11.body.getD .skip)) := trivial
theorem laws_eqPair.den (k : Nat) (x : Sig.In laws_eqPair.sg.ps) : denFn laws_eqPair.E k Go.Proofs.Tryz.f11 laws_eqPair.sg laws_eqPair.hd (runL k laws_eqPair.hd (laws_eqPair.lps k)) x = laws_eqPair.F k x := by kernel_rfl
theorem laws_eqPair.ok (k : Nat) : Contract Tryz.prog 11 laws_eqPair.sg (laws_eqPair.F k) := ok_of (E := laws_eqPair.E) (tysOk _ _) (eqsOk _) ⟨laws_eqSettings.ok k, laws_eqNodeS.ok k, laws_eqWireS.ok k, laws_eqMailS.ok k, laws_eqEntryS.ok k, trivial⟩ Tryz.func11 rfl (by kernel_rfl) (laws_eqPair.loops k) (laws_eqPair.den k)
def laws_FnExactOneActive.sg : Sig := ⟨[.b kPair], [(.bool, .rd)]⟩
def laws_FnExactOneActive.E : Env := ⟨tys, bys, [(7, ⟨laws_szPair.sg, laws_szPair.F⟩), (8, ⟨spec_OneActive.sg, spec_OneActive.F⟩), (9, ⟨laws_toPair.sg, laws_toPair.F⟩), (10, ⟨impl_OneActive.sg, impl_OneActive.F⟩), (11, ⟨laws_eqPair.sg, laws_eqPair.F⟩)], eqs⟩
def laws_FnExactOneActive.F (k : Nat) (x : ((((Int × (Int × (Int × Unit))) × (Int × ((List ((Int × (Int × Unit)) × (Int × (Int × (Int × (Bool × (Int × (Int × Unit)))))))) × ((List ((Int × (Int × Unit)) × (Int × (Int × (Int × (Bool × (Int × (Int × Unit)))))))) × Unit)))) × ((List (Int × (Bool × (Int × (Int × ((List (Int × ((Int × (Int × ((List Int) × Unit))) × Unit))) × (Int × (Int × (Int × (Int × Unit)))))))))) × ((List (Int × ((List Int) × (Int × ((List Int) × Unit))))) × ((List (Int × (Int × (Int × (Int × (Int × (Bool × ((Int × ((Int × (Int × ((List Int) × Unit))) × Unit)) × Unit)))))))) × ((List (Int × ((Int × (Int × ((List Int) × Unit))) × Unit))) × Unit))))) × Unit)) : Option ((Bool × Unit) × Unit) :=
  (laws_szPair.F k (x.1, (1048576 : Int), ())).bind fun y0 =>
  bif (decide ((y0.1.1 < (0 : Int)))) then
  (some ((true, ()), ()))
  else (laws_toPair.F k x).bind fun y1 =>
    (spec_OneActive.F k y1.1).bind fun y2 =>
    (laws_toPair.F k x).bind fun y3 =>
    (impl_OneActive.F k y3.1).bind fun y4 =>
    bif (!(y4.1.1 == y2.1.1)) then
    (some ((false, ()), ()))
    else (laws_toPair.F k x).bind fun y5 =>
      (laws_eqPair.F k (y3.1.1, y5.1)).bind fun y6 =>
      bif (!y6.1.1) then
      (some ((false, ()), ()))
      else some ((true, ()), ())
def laws_FnExactOneActive.hd : Hints := ⟨[], [], [2], [0, 1, 3, 4, 5, 6], [(10, [0, 0, 2, 7, 15])]⟩
def laws_FnExactOneActive.lps (k : Nat) : List (Nat × Lp laws_FnExactOneActive.sg.Out) := []
theorem laws_FnExactOneActive.loops (k : Nat) : LoopsOk laws_FnExactOneActive.E k laws_FnExactOneActive.hd (laws_FnExactOneActive.lps k) (loopsOf (Go.Proofs.Tryz.f3.body.getD .skip)) := trivial
theorem laws_FnExactOneActive.den (k : Nat) (x : Sig.In laws_FnExactOneActive.sg.ps) : denFn laws_FnExactOneActive.E k Go.Proofs.Tryz.f3 laws_FnExactOneActive.sg laws_FnExactOneActive.hd (runL k laws_FnExactOneActive.hd (laws_FnExactOneActive.lps k)) x = laws_FnExactOneActive.F k x := by kernel_rfl
theorem laws_FnExactOneActive.ok (k : Nat) : Contract Tryz.prog 3 laws_FnExactOneActive.sg (laws_FnExactOneActive.F k) := ok_of (E := laws_FnExactOneActive.E) (tysOk _ _) (eqsOk _) ⟨laws_szPair.ok k, spec_OneActive.ok k, laws_toPair.ok k, impl_OneActive.ok k, laws_eqPair.ok k, trivial⟩ Tryz.func3 rfl (by kernel_rfl) (laws_FnExactOneActive.loops k) (laws_FnExactOneActive.den k)
def spec_l15SameEntry.sg : Sig := ⟨[.b kEntry, .b kEntry], [(.bool, .rd)]⟩
def spec_l15SameEntry.E : Env := ⟨tys, bys, [], eqs⟩
def spec_l15SameEntry.F (k : Nat) (x : ((Int × ((Int × (Int × ((List Int) × Unit))) × Unit)) × ((Int × ((Int × (Int × ((List Int) × Unit))) × Unit)) × Unit))) : Option ((Bool × Unit) × Unit) :=
  bif (x.1.1 == x.2.1.1) then
  (bif (x.1.2.1.1 == x.2.1.2.1.1) then
    (bif (x.1.2.1.2.1 == x.2.1.2.1.2.1) then
      (some (((Go.Dn.strEq (Go.Dn.strOf x.1.2.1.2.2.1) (Go.Dn.strOf x.2.1.2.1.2.2.1)), ()), ()))
      else some ((false, ()), ()))
    else some ((false, ()), ()))
  else some ((false, ()), ())
def spec_l15SameEntry.hd : Hints := ⟨[], [], [4], [0, 1, 2, 3], []⟩
def spec_l15SameEntry.lps (k : Nat) : List (Nat × Lp spec_l15SameEntry.sg.Out) := []
theorem spec_l15SameEntry.loops (k : Nat) : LoopsOk spec_l15SameEntry.E k spec_l15SameEntry.hd (spec_l15SameEntry.lps k) (loopsOf (Go.Proofs.Tryz.f112.body.getD .skip)) := trivial
theorem spec_l15SameEntry.den (k : Nat) (x : Sig.In spec_l15SameEntry.sg.ps) : denFn spec_l15SameEntry.E k Go.Proofs.Tryz.f112 spec_l15SameEntry.sg spec_l15SameEntry.hd (runL k spec_l15SameEntry.hd (spec_l15SameEntry.lps k)) x = spec_l15SameEntry.F k x := by kernel_rfl
theorem spec_l15SameEntry.ok (k : Nat) : Contract Tryz.prog 112 spec_l15SameEntry.sg (spec_l15SameEntry.F k) := ok_of (E := spec_l15SameEntry.E) (tysOk _ _) (eqsOk _) trivial Tryz.func112 rfl (by kernel_rfl) (spec_l15SameEntry.loops k) (spec_l15SameEntry.den k)
def spec_l15Common.sg : Sig := ⟨[.b (.sl kEntry), .b (.sl kEntry)], [((.int .i64), .rd)]⟩
def spec_l15Common.E : Env := ⟨tys, bys, [(112, ⟨spec_l15SameEntry.sg, spec_l15SameEntry.F⟩)], eqs⟩
def spec_l15Common.l2 {ρ : Type} (k : Nat) (c0 : (Int × Unit) → Option ρ) : Nat → List (Int × ((Int × (Int × ((List Int) × Unit))) × Unit)) → List (Int × ((Int × (Int × ((List Int) × Unit))) × Unit)) → Int → Option ρ
  | 0 => fun _ _ _ => none
  | n + 1 => fun x0 x1 x2 => 
    bif (decide ((x2 < (((List.length x0) : Nat) : Int)))) then
    (bif (decide ((x2 < (((List.length x1) : Nat) : Int)))) then
      (bif (Go.Dn.inB x2 (((List.length x0) : Nat) : Int)) then
        (Go.Dn.share (List.getD x0 (Int.toNat x2) ((0 : Int), (((0 : Int), ((0 : Int), (([] : List Int), ()))), ()))) fun s0 =>
          bif (Go.Dn.inB x2 (((List.length x1) : Nat) : Int)) then
          (Go.Dn.share (List.getD x1 (Int.toNat x2) ((0 : Int), (((0 : Int), ((0 : Int), (([] : List Int), ()))), ()))) fun s1 =>
            (spec_l15SameEntry.F k (s0, s1, ())).bind fun y2 =>
            bif y2.1.1 then
            (spec_l15Common.l2 k c0 n x0 x1 (IntKind.wrap .i64 (x2 + (1 : Int))))
            else c0 (x2, ()))
          else none)
        else none)
      else c0 (x2, ()))
    else c0 (x2, ())
def spec_l15Common.F (k : Nat) (x : ((List (Int × ((Int × (Int × ((List Int) × Unit))) × Unit))) × ((List (Int × ((Int × (Int × ((List Int) × Unit))) × Unit))) × Unit))) : Option ((Int × Unit) × Unit) :=
  spec_l15Common.l2 k (fun e3 =>
    some (e3, ())) k x.1 x.2.1 (0 : Int)
def spec_l15Common.hd : Hints := ⟨[(2, ⟨[0, 1, 5], []⟩)], [(0, [5]), (1, [0, 1, 5])], [4], [0, 1, 5], [(2, [0, 0, 2, 7, 15, 31, 31, 95, 255, 511, 1023, 2047, 2047, 8191, 16383, 2047, 2047, 100351, 231423, 524287, 1048575])]⟩
def spec_l15Common.lps (k : Nat) : List (Nat × Lp spec_l15Common.sg.Out) := [(2, ⟨[.l kEntry, .l kEntry, .i], fun x => (fun x0 x1 x2 => ⟨[(0, .v false [.fz kEntry x0]), (1, .v false [.fz kEntry x1]), (5, .v false [.int .i64 x2])], [], []⟩) x.1 x.2.1 x.2.2.1, fun C n x => spec_l15Common.l2 k (fun y => C (.exit 0) ((fun y0 => ⟨[(5, .v false [.int .i64 y0])], [], []⟩) y.1)) n x.1 x.2.1 x.2.2.1⟩)]
theorem spec_l15Common.loops (k : Nat) : LoopsOk spec_l15Common.E k spec_l15Common.hd (spec_l15Common.lps k) (loopsOf (Go.Proofs.Tryz.f76.body.getD .skip)) := ⟨⟨fun _ _ => rfl, fun _ _ _ => by kernel_rfl, fun _ => ⟨rfl, rfl⟩⟩, trivial⟩
theorem spec_l15Common.den (k : Nat) (x : Sig.In spec_l15Common.sg.ps) : denFn spec_l15Common.E k Go.Proofs.Tryz.f76 spec_l15Common.sg spec_l15Common.hd (runL k spec_l15Common.hd (spec_l15Common.lps k)) x = spec_l15Common.F k x := by kernel_rfl
theorem spec_l15Common.ok (k : Nat) : Contract Tryz.prog 76 spec_l15Common.sg (spec_l15Common.F k) := ok_of (E := spec_l15Common.E) (tysOk _ _) (eqsOk _) ⟨spec_l15SameEntry.ok k, trivial⟩ Tryz.func76 rfl (by kernel_rfl) (spec_l15Common.loops k) (spec_l15Common.den k)
def spec_l15Match.sg : Sig := ⟨[.r kPair], [(.bool, .rd)]⟩
def spec_l15Match.E : Env := ⟨tys, bys, [(76, ⟨spec_l15Common.sg, spec_l15Common.F⟩)], eqs⟩
def spec_l15Match.l4 {ρ : Type} (k : Nat) (c0 : (Bool × Unit) → Option ρ) (c1 : Unit → Option ρ) : Nat → List (Int × ((Int × (Int × ((List Int) × Unit))) × Unit)) → List (Int × ((Int × (Int × ((List Int) × Unit))) × Unit)) → Int → Option ρ
  | 0 => fun _ _ _ => none
  | n + 1 => fun x0 x1 x2 => 
    bif (decide ((x2 < (((List.length x0) : Nat) : Int)))) then
    (bif (decide ((x2 < (((List.length x1) : Nat) : Int)))) then
      (bif (Go.Dn.inB x2 (((List.length x0) : Nat) : Int)) then
        (Go.Dn.share (List.getD x0 (Int.toNat x2) ((0 : Int), (((0 : Int), ((0 : Int), (([] : List Int), ()))), ()))) fun s3 =>
          bif (Go.Dn.inB x2 (((List.length x1) : Nat) : Int)) then
          (Go.Dn.share (List.getD x1 (Int.toNat x2) ((0 : Int), (((0 : Int), ((0 : Int), (([] : List Int), ()))), ()))) fun s4 =>
            bif (s3.1 == s4.1) then
            (c0 (false, ()))
            else spec_l15Match.l4 k c0 c1 n x0 x1 (IntKind.wrap .i64 (x2 + (1 : Int))))
          else none)
        else none)
      else c1 (()))
    else c1 (())
def spec_l15Match.F (k : Nat) (x : ((((Int × (Int × (Int × Unit))) × (Int × ((List ((Int × (Int × Unit)) × (Int × (Int × (Int × (Bool × (Int × (Int × Unit)))))))) × ((List ((Int × (Int × Unit)) × (Int × (Int × (Int × (Bool × (Int × (Int × Unit)))))))) × Unit)))) × ((List (Int × (Bool × (Int × (Int × ((List (Int × ((Int × (Int × ((List Int) × Unit))) × Unit))) × (Int × (Int × (Int × (Int × Unit)))))))))) × ((List (Int × ((List Int) × (Int × ((List Int) × Unit))))) × ((List (Int × (Int × (Int × (Int × (Int × (Bool × ((Int × ((Int × (Int × ((List Int) × Unit))) × Unit)) × Unit)))))))) × ((List (Int × ((Int × (Int × ((List Int) × Unit))) × Unit))) × Unit))))) × Unit)) : Option ((Bool × Unit) × Unit) :=
  bif (Go.Dn.inB (0 : Int) (((List.length x.1.2.1) : Nat) : Int)) then
  (Go.Dn.share (List.getD x.1.2.1 (Int.toNat (0 : Int)) ((0 : Int), (false, ((0 : Int), ((0 : Int), (([] : List (Int × ((Int × (Int × ((List Int) × Unit))) × Unit))), ((0 : Int), ((0 : Int), ((0 : Int), ((0 : Int), ())))))))))) fun s0 =>
    bif (Go.Dn.inB (1 : Int) (((List.length x.1.2.1) : Nat) : Int)) then
    (Go.Dn.share (List.getD x.1.2.1 (Int.toNat (1 : Int)) ((0 : Int), (false, ((0 : Int), ((0 : Int), (([] : List (Int × ((Int × (Int × ((List Int) × Unit))) × Unit))), ((0 : Int), ((0 : Int), ((0 : Int), ((0 : Int), ())))))))))) fun s1 =>
      (spec_l15Common.F k (s0.2.2.2.2.1, s1.2.2.2.2.1, ())).bind fun y2 =>
      spec_l15Match.l4 k (fun e5 =>
        some (e5, ())) (fun e6 =>
        some ((true, ()), ())) k s0.2.2.2.2.1 s1.2.2.2.2.1 y2.1.1)
    else none)
  else none
def spec_l15Match.hd : Hints := ⟨[(4, ⟨[3, 4, 5], []⟩)], [(0, []), (1, [3, 4, 5])], [2], [0, 3, 4, 5], [(6, [0, 0, 3, 7, 15, 0, 0, 96, 224, 480, 1023])]⟩
def spec_l15Match.lps (k : Nat) : List (Nat × Lp spec_l15Match.sg.Out) := [(4, ⟨[.l kEntry, .l kEntry, .i], fun x => (fun x0 x1 x2 => ⟨[(3, .v false [.fz kEntry x0]), (4, .v false [.fz kEntry x1]), (5, .v false [.int .i64 x2])], [], []⟩) x.1 x.2.1 x.2.2.1, fun C n x => spec_l15Match.l4 k (fun y => C .ret ((fun y0 => ⟨[(2, .v false [.bool y0])], [], []⟩) y.1)) (fun _ => C (.exit 0) ⟨[], [], []⟩) n x.1 x.2.1 x.2.2.1⟩)]
theorem spec_l15Match.loops (k : Nat) : LoopsOk spec_l15Match.E k spec_l15Match.hd (spec_l15Match.lps k) (loopsOf (Go.Proofs.Tryz.f37.body.getD .skip)) := ⟨⟨fun _ _ => rfl, fun _ _ _ => by kernel_rfl, fun _ => ⟨rfl, rfl⟩⟩, trivial⟩
theorem spec_l15Match.den (k : Nat) (x : Sig.In spec_l15Match.sg.ps) : denFn spec_l15Match.E k Go.Proofs.Tryz.f37 spec_l15Match.sg spec_l15Match.hd (runL k spec_l15Match.hd (spec_l15Match.lps k)) x = spec_l15Match.F k x := by kernel_rfl
theorem spec_l15Match.ok (k : Nat) : Contract Tryz.prog 37 spec_l15Match.sg (spec_l15Match.F k) := ok_of (E := spec_l15Match.E) (tysOk _ _) (eqsOk _) ⟨spec_l15Common.ok k, trivial⟩ Tryz.func37 rfl (by kernel_rfl) (spec_l15Match.loops k) (spec_l15Match.den k)
def spec_LogsMatch.sg : Sig := ⟨[.b kPair], [(.bool, .rd)]⟩
def spec_LogsMatch.E : Env := ⟨tys, bys, [(23, ⟨spec_l14Fault.sg, spec_l14Fault.F⟩), (37, ⟨spec_l15Match.sg, spec_l15Match.F⟩)], eqs⟩
def spec_LogsMatch.F (k : Nat) (x : ((((Int × (Int × (Int × Unit))) × (Int × ((List ((Int × (Int × Unit)) × (Int × (Int × (Int × (Bool × (Int × (Int × Unit)))))))) × ((List ((Int × (Int × Unit)) × (Int × (Int × (Int × (Bool × (Int × (Int × Unit)))))))) × Unit)))) × ((List (Int × (Bool × (Int × (Int × ((List (Int × ((Int × (Int × ((List Int) × Unit))) × Unit))) × (Int × (Int × (Int × (Int × Unit)))))))))) × ((List (Int × ((List Int) × (Int × ((List Int) × Unit))))) × ((List (Int × (Int × (Int × (Int × (Int × (Bool × ((Int × ((Int × (Int × ((List Int) × Unit))) × Unit)) × Unit)))))))) × ((List (Int × ((Int × (Int × ((List Int) × Unit))) × Unit))) × Unit))))) × Unit)) : Option ((Bool × Unit) × Unit) :=
  (spec_l14Fault.F k x).bind fun y0 =>
  bif (y0.1.1 == (0 : Int)) then
  ((spec_l15Match.F k x).bind fun y1 =>
    some y1)
  else some ((false, ()), ())
def spec_LogsMatch.hd : Hints := ⟨[], [], [2], [0, 1], []⟩
def spec_LogsMatch.lps (k : Nat) : List (Nat × Lp spec_LogsMatch.sg.Out) := []
theorem spec_LogsMatch.loops (k : Nat) : LoopsOk spec_LogsMatch.E k spec_LogsMatch.hd (spec_LogsMatch.lps k) (loopsOf (Go.Proofs.Tryz.f12.body.getD .skip)) := trivial
theorem spec_LogsMatch.den (k : Nat) (x : Sig.In spec_LogsMatch.sg.ps) : denFn spec_LogsMatch.E k Go.Proofs.Tryz.f12 spec_LogsMatch.sg spec_LogsMatch.hd (runL k spec_LogsMatch.hd (spec_LogsMatch.lps k)) x = spec_LogsMatch.F k x := by kernel_rfl
theorem spec_LogsMatch.ok (k : Nat) : Contract Tryz.prog 12 spec_LogsMatch.sg (spec_LogsMatch.F k) := ok_of (E := spec_LogsMatch.E) (tysOk _ _) (eqsOk _) ⟨spec_l14Fault.ok k, spec_l15Match.ok k, trivial⟩ Tryz.func12 rfl (by kernel_rfl) (spec_LogsMatch.loops k) (spec_LogsMatch.den k)
def slices_EqualFunc_impl_Entry_impl_Entry_impl_Entry_impl_Entry.sg : Sig := ⟨[.b (.sl kEntry), .b (.sl kEntry), .f (.pair kEntry (.pair kEntry .unit)) .bool], [(.bool, .rd)]⟩
def slices_EqualFunc_impl_Entry_impl_Entry_impl_Entry_impl_Entry.E : Env := ⟨tys, bys, [], eqs⟩
def slices_EqualFunc_impl_Entry_impl_Entry_impl_Entry_impl_Entry.l4 {ρ : Type} (k : Nat) (c0 : (Bool × Unit) → Option ρ) (c1 : Unit → Option ρ) : Nat → List (Int × ((Int × (Int × ((List Int) × Unit))) × Unit)) → (((Int × ((Int × (Int × ((List Int) × Unit))) × Unit)) × ((Int × ((Int × (Int × ((List Int) × Unit))) × Unit)) × Unit)) → Option Bool) → List (Int × ((Int × (Int × ((List Int) × Unit))) × Unit)) → Int → Int → Option ρ
  | 0 => fun _ _ _ _ _ => none
  | n + 1 => fun x0 x1 x2 x3 x4 => 
    bif (decide ((x4 < x3))) then
    (bif (Go.Dn.inB x4 (((List.length x2) : Nat) : Int)) then
      (Go.Dn.share (List.getD x2 (Int.toNat x4) ((0 : Int), (((0 : Int), ((0 : Int), (([] : List Int), ()))), ()))) fun s0 =>
        bif (Go.Dn.inB x4 (((List.length x0) : Nat) : Int)) then
        (Go.Dn.share (List.getD x0 (Int.toNat x4) ((0 : Int), (((0 : Int), ((0 : Int), (([] : List Int), ()))), ()))) fun s1 =>
          (x1 (s0, s1, ())).bind fun y2 =>
          bif (!y2) then
          (c0 (false, ()))
          else slices_EqualFunc_impl_Entry_impl_Entry_impl_Entry_impl_Entry.l4 k c0 c1 n x0 x1 x2 x3 (IntKind.wrap .i64 (x4 + (1 : Int))))
        else none)
      else none)
    else c1 (())
def slices_EqualFunc_impl_Entry_impl_Entry_impl_Entry_impl_Entry.F (k : Nat) (x : ((List (Int × ((Int × (Int × ((List Int) × Unit))) × Unit))) × ((List (Int × ((Int × (Int × ((List Int) × Unit))) × Unit))) × ((((Int × ((Int × (Int × ((List Int) × Unit))) × Unit)) × ((Int × ((Int × (Int × ((List Int) × Unit))) × Unit)) × Unit)) → Option Bool) × Unit)))) : Option ((Bool × Unit) × Unit) :=
  bif ((((List.length x.1) : Nat) : Int) != (((List.length x.2.1) : Nat) : Int)) then
  (some ((false, ()), ()))
  else slices_EqualFunc_impl_Entry_impl_Entry_impl_Entry_impl_Entry.l4 k (fun e3 =>
      some (e3, ())) (fun e4 =>
      some ((true, ()), ())) k x.2.1 x.2.2.1 x.1 (((List.length x.1) : Nat) : Int) (0 : Int)
def slices_EqualFunc_impl_Entry_impl_Entry_impl_Entry_impl_Entry.hd : Hints := ⟨[(4, ⟨[1, 2, 15, 16, 17], []⟩)], [(0, []), (1, [1, 2, 15, 16, 17])], [6], [0, 1, 2, 7, 8, 9, 15, 16, 17], []⟩
def slices_EqualFunc_impl_Entry_impl_Entry_impl_Entry_impl_Entry.lps (k : Nat) : List (Nat × Lp slices_EqualFunc_impl_Entry_impl_Entry_impl_Entry_impl_Entry.sg.Out) := [(4, ⟨[.l kEntry, .f (.pair kEntry (.pair kEntry .unit)) .bool, .l kEntry, .i, .i], fun x => (fun x0 x1 x2 x3 x4 => ⟨[(1, .v false [.fz kEntry x0]), (2, .v false [.fnv (.pair kEntry (.pair kEntry .unit)) .bool x1]), (15, .v false [.fz kEntry x2]), (16, .v false [.int .i64 x3]), (17, .v false [.int .i64 x4])], [], []⟩) x.1 x.2.1 x.2.2.1 x.2.2.2.1 x.2.2.2.2.1, fun C n x => slices_EqualFunc_impl_Entry_impl_Entry_impl_Entry_impl_Entry.l4 k (fun y => C .ret ((fun y0 => ⟨[(6, .v false [.bool y0])], [], []⟩) y.1)) (fun _ => C (.exit 0) ⟨[], [], []⟩) n x.1 x.2.1 x.2.2.1 x.2.2.2.1 x.2.2.2.2.1⟩)]
theorem slices_EqualFunc_impl_Entry_impl_Entry_impl_Entry_impl_Entry.loops (k : Nat) : LoopsOk slices_EqualFunc_impl_Entry_impl_Entry_impl_Entry_impl_Entry.E k slices_EqualFunc_impl_Entry_impl_Entry_impl_Entry_impl_Entry.hd (slices_EqualFunc_impl_Entry_impl_Entry_impl_Entry_impl_Entry.lps k) (loopsOf (Go.Proofs.Tryz.f113.body.getD .skip)) := ⟨⟨fun _ _ => rfl, fun _ _ _ => by kernel_rfl, fun _ => ⟨rfl, rfl⟩⟩, trivial⟩
theorem slices_EqualFunc_impl_Entry_impl_Entry_impl_Entry_impl_Entry.den (k : Nat) (x : Sig.In slices_EqualFunc_impl_Entry_impl_Entry_impl_Entry_impl_Entry.sg.ps) : denFn slices_EqualFunc_impl_Entry_impl_Entry_impl_Entry_impl_Entry.E k Go.Proofs.Tryz.f113 slices_EqualFunc_impl_Entry_impl_Entry_impl_Entry_impl_Entry.sg slices_EqualFunc_impl_Entry_impl_Entry_impl_Entry_impl_Entry.hd (runL k slices_EqualFunc_impl_Entry_impl_Entry_impl_Entry_impl_Entry.hd (slices_EqualFunc_impl_Entry_impl_Entry_impl_Entry_impl_Entry.lps k)) x = slices_EqualFunc_impl_Entry_impl_Entry_impl_Entry_impl_Entry.F k x := by kernel_rfl
theorem slices_EqualFunc_impl_Entry_impl_Entry_impl_Entry_impl_Entry.ok (k : Nat) : Contract Tryz.prog 113 slices_EqualFunc_impl_Entry_impl_Entry_impl_Entry_impl_Entry.sg (slices_EqualFunc_impl_Entry_impl_Entry_impl_Entry_impl_Entry.F k) := ok_of (E := slices_EqualFunc_impl_Entry_impl_Entry_impl_Entry_impl_Entry.E) (tysOk _ _) (eqsOk _) trivial Tryz.func113 rfl (by kernel_rfl) (slices_EqualFunc_impl_Entry_impl_Entry_impl_Entry_impl_Entry.loops k) (slices_EqualFunc_impl_Entry_impl_Entry_impl_Entry_impl_Entry.den k)
def bytes_Equal.sg : Sig := ⟨[.b (.sl (.int .u8)), .b (.sl (.int .u8))], [(.bool, .rd)]⟩
def bytes_Equal.E : Env := ⟨tys, bys, [], eqs⟩
def bytes_Equal.F (k : Nat) (x : ((List Int) × ((List Int) × Unit))) : Option ((Bool × Unit) × Unit) :=
  some (((Go.Dn.strEq (Go.Dn.strOf x.1) (Go.Dn.strOf x.2.1)), ()), ())
def bytes_Equal.hd : Hints := ⟨[], [], [4], [0, 1], []⟩
def bytes_Equal.lps (k : Nat) : List (Nat × Lp bytes_Equal.sg.Out) := []
theorem bytes_Equal.loops (k : Nat) : LoopsOk bytes_Equal.E k bytes_Equal.hd (bytes_Equal.lps k) (loopsOf (Go.Proofs.Tryz.f116.body.getD .skip)) := trivial
theorem bytes_Equal.den (k : Nat) (x : Sig.In bytes_Equal.sg.ps) : denFn bytes_Equal.E k Go.Proofs.Tryz.f116 bytes_Equal.sg bytes_Equal.hd (runL k bytes_Equal.hd (bytes_Equal.lps k)) x = bytes_Equal.F k x := by kernel_rfl
theorem bytes_Equal.ok (k : Nat) : Contract Tryz.prog 116 bytes_Equal.sg (bytes_Equal.F k) := ok_of (E := bytes_Equal.E) (tysOk _ _) (eqsOk _) trivial Tryz.func116 rfl (by kernel_rfl) (bytes_Equal.loops k) (bytes_Equal.den k)
def impl_sameEntry.sg : Sig := ⟨[.b kEntry, .b kEntry], [(.bool, .rd)]⟩
def impl_sameEntry.E : Env := ⟨tys, bys, [(116, ⟨bytes_Equal.sg, bytes_Equal.F⟩)], eqs⟩
def impl_sameEntry.F (k : Nat) (x : ((Int × ((Int × (Int × ((List Int) × Unit))) × Unit)) × ((Int × ((Int × (Int × ((List Int) × Unit))) × Unit)) × Unit))) : Option ((Bool × Unit) × Unit) :=
  bif (x.1.1 == x.2.1.1) then
  (bif (x.1.2.1.1 == x.2.1.2.1.1) then
    (bif (x.1.2.1.2.1 == x.2.1.2.1.2.1) then
      ((bytes_Equal.F k (x.1.2.1.2.2.1, x.2.1.2.1.2.2)).bind fun y0 =>
        some y0)
      else some ((false, ()), ()))
    else some ((false, ()), ()))
  else some ((false, ()), ())
def impl_sameEntry.hd : Hints := ⟨[], [], [4], [0, 1, 2, 3], []⟩
def impl_sameEntry.lps (k : Nat) : List (Nat × Lp impl_sameEntry.sg.Out) := []
theorem impl_sameEntry.loops (k : Nat) : LoopsOk impl_sameEntry.E k impl_sameEntry.hd (impl_sameEntry.lps k) (loopsOf (Go.Proofs.Tryz.f114.body.getD .skip)) := trivial
theorem impl_sameEntry.den (k : Nat) (x : Sig.In impl_sameEntry.sg.ps) : denFn impl_sameEntry.E k Go.Proofs.Tryz.f114 impl_sameEntry.sg impl_sameEntry.hd (runL k impl_sameEntry.hd (impl_sameEntry.lps k)) x = impl_sameEntry.F k x := by kernel_rfl
theorem impl_sameEntry.ok (k : Nat) : Contract Tryz.prog 114 impl_sameEntry.sg (impl_sameEntry.F k) := ok_of (E := impl_sameEntry.E) (tysOk _ _) (eqsOk _) ⟨bytes_Equal.ok k, trivial⟩ Tryz.func114 rfl (by kernel_rfl) (impl_sameEntry.loops k) (impl_sameEntry.den k)
def impl_sameEntries.sg : Sig := ⟨[.b (.sl kEntry), .b (.sl kEntry)], [(.bool, .rd)]⟩
def impl_sameEntries.E : Env := ⟨tys, bys, [(113, ⟨slices_EqualFunc_impl_Entry_impl_Entry_impl_Entry_impl_Entry.sg, slices_EqualFunc_impl_Entry_impl_Entry_impl_Entry_impl_Entry.F⟩), (114, ⟨impl_sameEntry.sg, impl_sameEntry.F⟩)], eqs⟩
def impl_sameEntries.F (k : Nat) (x : ((List (Int × ((Int × (Int × ((List Int) × Unit))) × Unit))) × ((List (Int × ((Int × (Int × ((List Int) × Unit))) × Unit))) × Unit))) : Option ((Bool × Unit) × Unit) :=
  (slices_EqualFunc_impl_Entry_impl_Entry_impl_Entry_impl_Entry.F k (x.1, x.2.1, (fun x => (Option.bind (impl_sameEntry.F k x) (fun y => (Option.some y.1.1)))), ())).bind fun y0 =>
  some y0
def impl_sameEntries.hd : Hints := ⟨[], [], [4], [0, 1], []⟩
def impl_sameEntries.lps (k : Nat) : List (Nat × Lp impl_sameEntries.sg.Out) := []
theorem impl_sameEntries.loops (k : Nat) : LoopsOk impl_sameEntries.E k impl_sameEntries.hd (impl_sameEntries.lps k) (loopsOf (Go.Proofs.Tryz.f77.body.getD .skip)) := trivial
theorem impl_sameEntries.den (k : Nat) (x : Sig.In impl_sameEntries.sg.ps) : denFn impl_sameEntries.E k Go.Proofs.Tryz.f77 impl_sameEntries.sg impl_sameEntries.hd (runL k impl_sameEntries.hd (impl_sameEntries.lps k)) x = impl_sameEntries.F k x := by kernel_rfl
theorem impl_sameEntries.ok (k : Nat) : Contract Tryz.prog 77 impl_sameEntries.sg (impl_sameEntries.F k) := ok_of (E := impl_sameEntries.E) (tysOk _ _) (eqsOk _) ⟨slices_EqualFunc_impl_Entry_impl_Entry_impl_Entry_impl_Entry.ok k, impl_sameEntry.ok k, trivial⟩ Tryz.func77 rfl (by kernel_rfl) (impl_sameEntries.loops k) (impl_sameEntries.den k)
def impl_Pair_logsMatch.sg : Sig := ⟨[.r kPair], [(.bool, .rd)]⟩
def impl_Pair_logsMatch.E : Env := ⟨tys, bys, [(77, ⟨impl_sameEntries.sg, impl_sameEntries.F⟩)], eqs⟩
def impl_Pair_logsMatch.l3 {ρ : Type} (k : Nat) (c0 : (Bool × Unit) → Option ρ) (c1 : Unit → Option ρ) : Nat → List (Int × ((Int × (Int × ((List Int) × Unit))) × Unit)) → List (Int × ((Int × (Int × ((List Int) × Unit))) × Unit)) → Int → Int → Option ρ
  | 0 => fun _ _ _ _ => none
  | n + 1 => fun x0 x1 x2 x3 => 
    bif (decide ((x3 < x2))) then
    (bif (Go.Dn.inB x3 (((List.length x0) : Nat) : Int)) then
      (Go.Dn.share (List.getD x0 (Int.toNat x3) ((0 : Int), (((0 : Int), ((0 : Int), (([] : List Int), ()))), ()))) fun s2 =>
        bif (Go.Dn.inB x3 (((List.length x1) : Nat) : Int)) then
        (Go.Dn.share (List.getD x1 (Int.toNat x3) ((0 : Int), (((0 : Int), ((0 : Int), (([] : List Int), ()))), ()))) fun s3 =>
          bif (s2.1 == s3.1) then
          (bif (decide (((0 : Int) ≤ (IntKind.wrap .i64 (x3 + (1 : Int)))))) then
            (bif (decide (((IntKind.wrap .i64 (x3 + (1 : Int))) ≤ (((List.length x0) : Nat) : Int)))) then
              (bif (decide (((0 : Int) ≤ (IntKind.wrap .i64 (x3 + (1 : Int)))))) then
                (Go.Dn.share (Go.Dn.cutL x0 (0 : Int) ((IntKind.wrap .i64 (x3 + (1 : Int))) - (0 : Int))) fun s4 =>
                  bif (decide (((0 : Int) ≤ (IntKind.wrap .i64 (x3 + (1 : Int)))))) then
                  (bif (decide (((IntKind.wrap .i64 (x3 + (1 : Int))) ≤ (((List.length x1) : Nat) : Int)))) then
                    (bif (decide (((0 : Int) ≤ (IntKind.wrap .i64 (x3 + (1 : Int)))))) then
                      (Go.Dn.share (Go.Dn.cutL x1 (0 : Int) ((IntKind.wrap .i64 (x3 + (1 : Int))) - (0 : Int))) fun s5 =>
                        (impl_sameEntries.F k (s4, s5, ())).bind fun y6 =>
                        bif (!y6.1.1) then
                        (c0 (false, ()))
                        else impl_Pair_logsMatch.l3 k c0 c1 n x0 x1 x2 (IntKind.wrap .i64 (x3 + (1 : Int))))
                      else none)
                    else none)
                  else none)
                else none)
              else none)
            else none)
          else impl_Pair_logsMatch.l3 k c0 c1 n x0 x1 x2 (IntKind.wrap .i64 (x3 + (1 : Int))))
        else none)
      else none)
    else c1 (())
def impl_Pair_logsMatch.F (k : Nat) (x : ((((Int × (Int × (Int × Unit))) × (Int × ((List ((Int × (Int × Unit)) × (Int × (Int × (Int × (Bool × (Int × (Int × Unit)))))))) × ((List ((Int × (Int × Unit)) × (Int × (Int × (Int × (Bool × (Int × (Int × Unit)))))))) × Unit)))) × ((List (Int × (Bool × (Int × (Int × ((List (Int × ((Int × (Int × ((List Int) × Unit))) × Unit))) × (Int × (Int × (Int × (Int × Unit)))))))))) × ((List (Int × ((List Int) × (Int × ((List Int) × Unit))))) × ((List (Int × (Int × (Int × (Int × (Int × (Bool × ((Int × ((Int × (Int × ((List Int) × Unit))) × Unit)) × Unit)))))))) × ((List (Int × ((Int × (Int × ((List Int) × Unit))) × Unit))) × Unit))))) × Unit)) : Option ((Bool × Unit) × Unit) :=
  bif (Go.Dn.inB (0 : Int) (((List.length x.1.2.1) : Nat) : Int)) then
  (Go.Dn.share (List.getD x.1.2.1 (Int.toNat (0 : Int)) ((0 : Int), (false, ((0 : Int), ((0 : Int), (([] : List (Int × ((Int × (Int × ((List Int) × Unit))) × Unit))), ((0 : Int), ((0 : Int), ((0 : Int), ((0 : Int), ())))))))))) fun s0 =>
    bif (Go.Dn.inB (1 : Int) (((List.length x.1.2.1) : Nat) : Int)) then
    (Go.Dn.share (List.getD x.1.2.1 (Int.toNat (1 : Int)) ((0 : Int), (false, ((0 : Int), ((0 : Int), (([] : List (Int × ((Int × (Int × ((List Int) × Unit))) × Unit))), ((0 : Int), ((0 : Int), ((0 : Int), ((0 : Int), ())))))))))) fun s1 =>
      impl_Pair_logsMatch.l3 k (fun e7 =>
        some (e7, ())) (fun e8 =>
        some ((true, ()), ())) k s0.2.2.2.2.1 s1.2.2.2.2.1 (bif (decide (((((List.length s0.2.2.2.2.1) : Nat) : Int) < (((List.length s1.2.2.2.2.1) : Nat) : Int)))) then (((List.length s0.2.2.2.2.1) : Nat) : Int) else (((List.length s1.2.2.2.2.1) : Nat) : Int)) (0 : Int))
    else none)
  else none
def impl_Pair_logsMatch.hd : Hints := ⟨[(3, ⟨[3, 4, 24, 25], []⟩)], [(0, []), (1, [3, 4, 24, 25])], [2], [0, 3, 4, 5, 24, 25], [(1, [0, 1, 3, 7, 15, 31, 63, 0, 128, 384, 896, 1920, 3968, 8064, 127, 32767]), (5, [0, 0, 3, 7, 15, 0, 0, 96, 224, 480, 1023, 2047, 4095, 4095, 12287, 32767, 4095, 4095, 135167, 462847, 1048575, 2097151, 4194303])]⟩
def impl_Pair_logsMatch.lps (k : Nat) : List (Nat × Lp impl_Pair_logsMatch.sg.Out) := [(3, ⟨[.l kEntry, .l kEntry, .i, .i], fun x => (fun x0 x1 x2 x3 => ⟨[(3, .v false [.fz kEntry x0]), (4, .v false [.fz kEntry x1]), (24, .v false [.int .i64 x2]), (25, .v false [.int .i64 x3])], [], []⟩) x.1 x.2.1 x.2.2.1 x.2.2.2.1, fun C n x => impl_Pair_logsMatch.l3 k (fun y => C .ret ((fun y0 => ⟨[(2, .v false [.bool y0])], [], []⟩) y.1)) (fun _ => C (.exit 0) ⟨[], [], []⟩) n x.1 x.2.1 x.2.2.1 x.2.2.2.1⟩)]
theorem impl_Pair_logsMatch.loops (k : Nat) : LoopsOk impl_Pair_logsMatch.E k impl_Pair_logsMatch.hd (impl_Pair_logsMatch.lps k) (loopsOf (Go.Proofs.Tryz.f38.body.getD .skip)) := ⟨⟨fun _ _ => rfl, fun _ _ _ => by kernel_rfl, fun _ => ⟨rfl, rfl⟩⟩, trivial⟩
theorem impl_Pair_logsMatch.den (k : Nat) (x : Sig.In impl_Pair_logsMatch.sg.ps) : denFn impl_Pair_logsMatch.E k Go.Proofs.Tryz.f38 impl_Pair_logsMatch.sg impl_Pair_logsMatch.hd (runL k impl_Pair_logsMatch.hd (impl_Pair_logsMatch.lps k)) x = impl_Pair_logsMatch.F k x := by kernel_rfl
theorem impl_Pair_logsMatch.ok (k : Nat) : Contract Tryz.prog 38 impl_Pair_logsMatch.sg (impl_Pair_logsMatch.F k) := ok_of (E := impl_Pair_logsMatch.E) (tysOk _ _) (eqsOk _) ⟨impl_sameEntries.ok k, trivial⟩ Tryz.func38 rfl (by kernel_rfl) (impl_Pair_logsMatch.loops k) (impl_Pair_logsMatch.den k)
def impl_LogsMatch.sg : Sig := ⟨[.b kPair], [(.bool, .rd)]⟩
def impl_LogsMatch.E : Env := ⟨tys, bys, [(30, ⟨impl_PairFault.sg, impl_PairFault.F⟩), (38, ⟨impl_Pair_logsMatch.sg, impl_Pair_logsMatch.F⟩)], eqs⟩
def impl_LogsMatch.F (k : Nat) (x : ((((Int × (Int × (Int × Unit))) × (Int × ((List ((Int × (Int × Unit)) × (Int × (Int × (Int × (Bool × (Int × (Int × Unit)))))))) × ((List ((Int × (Int × Unit)) × (Int × (Int × (Int × (Bool × (Int × (Int × Unit)))))))) × Unit)))) × ((List (Int × (Bool × (Int × (Int × ((List (Int × ((Int × (Int × ((List Int) × Unit))) × Unit))) × (Int × (Int × (Int × (Int × Unit)))))))))) × ((List (Int × ((List Int) × (Int × ((List Int) × Unit))))) × ((List (Int × (Int × (Int × (Int × (Int × (Bool × ((Int × ((Int × (Int × ((List Int) × Unit))) × Unit)) × Unit)))))))) × ((List (Int × ((Int × (Int × ((List Int) × Unit))) × Unit))) × Unit))))) × Unit)) : Option ((Bool × Unit) × Unit) :=
  (impl_PairFault.F k x).bind fun y0 =>
  bif (y0.1.1 == (0 : Int)) then
  ((impl_Pair_logsMatch.F k x).bind fun y1 =>
    some y1)
  else some ((false, ()), ())
def impl_LogsMatch.hd : Hints := ⟨[], [], [2], [0, 1], []⟩
def impl_LogsMatch.lps (k : Nat) : List (Nat × Lp impl_LogsMatch.sg.Out) := []
theorem impl_LogsMatch.loops (k : Nat) : LoopsOk impl_LogsMatch.E k impl_LogsMatch.hd (impl_LogsMatch.lps k) (loopsOf (Go.Proofs.Tryz.f13.body.getD .skip)) := trivial
theorem impl_LogsMatch.den (k : Nat) (x : Sig.In impl_LogsMatch.sg.ps) : denFn impl_LogsMatch.E k Go.Proofs.Tryz.f13 impl_LogsMatch.sg impl_LogsMatch.hd (runL k impl_LogsMatch.hd (impl_LogsMatch.lps k)) x = impl_LogsMatch.F k x := by kernel_rfl
theorem impl_LogsMatch.ok (k : Nat) : Contract Tryz.prog 13 impl_LogsMatch.sg (impl_LogsMatch.F k) := ok_of (E := impl_LogsMatch.E) (tysOk _ _) (eqsOk _) ⟨impl_PairFault.ok k, impl_Pair_logsMatch.ok k, trivial⟩ Tryz.func13 rfl (by kernel_rfl) (impl_LogsMatch.loops k) (impl_LogsMatch.den k)
def laws_FnExactLogsMatch.sg : Sig := ⟨[.b kPair], [(.bool, .rd)]⟩
def laws_FnExactLogsMatch.E : Env := ⟨tys, bys, [(7, ⟨laws_szPair.sg, laws_szPair.F⟩), (9, ⟨laws_toPair.sg, laws_toPair.F⟩), (11, ⟨laws_eqPair.sg, laws_eqPair.F⟩), (12, ⟨spec_LogsMatch.sg, spec_LogsMatch.F⟩), (13, ⟨impl_LogsMatch.sg, impl_LogsMatch.F⟩)], eqs⟩
def laws_FnExactLogsMatch.F (k : Nat) (x : ((((Int × (Int × (Int × Unit))) × (Int × ((List ((Int × (Int × Unit)) × (Int × (Int × (Int × (Bool × (Int × (Int × Unit)))))))) × ((List ((Int × (Int × Unit)) × (Int × (Int × (Int × (Bool × (Int × (Int × Unit)))))))) × Unit)))) × ((List (Int × (Bool × (Int × (Int × ((List (Int × ((Int × (Int × ((List Int) × Unit))) × Unit))) × (Int × (Int × (Int × (Int × Unit)))))))))) × ((List (Int × ((List Int) × (Int × ((List Int) × Unit))))) × ((List (Int × (Int × (Int × (Int × (Int × (Bool × ((Int × ((Int × (Int × ((List Int) × Unit))) × Unit)) × Unit)))))))) × ((List (Int × ((Int × (Int × ((List Int) × Unit))) × Unit))) × Unit))))) × Unit)) : Option ((Bool × Unit) × Unit) :=
  (laws_szPair.F k (x.1, (1048576 : Int), ())).bind fun y0 =>
  bif (decide ((y0.1.1 < (0 : Int)))) then
  (some ((true, ()), ()))
  else (laws_toPair.F k x).bind fun y1 =>
    (spec_LogsMatch.F k y1.1).bind fun y2 =>
    (laws_toPair.F k x).bind fun y3 =>
    (impl_LogsMatch.F k y3.1).bind fun y4 =>
    bif (!(y4.1.1 == y2.1.1)) then
    (some ((false, ()), ()))
    else (laws_toPair.F k x).bind fun y5 =>
      (laws_eqPair.F k (y3.1.1, y5.1)).bind fun y6 =>
      bif (!y6.1.1) then
      (some ((false, ()), ()))
      else some ((true, ()), ())
def laws_FnExactLogsMatch.hd : Hints := ⟨[], [], [2], [0, 1, 3, 4, 5, 6], [(10, [0, 0, 2, 7, 15])]⟩
def laws_FnExactLogsMatch.lps (k : Nat) : List (Nat × Lp laws_FnExactLogsMatch.sg.Out) := []
theorem laws_FnExactLogsMatch.loops (k : Nat) : LoopsOk laws_FnExactLogsMatch.E k laws_FnExactLogsMatch.hd (laws_FnExactLogsMatch.lps k) (loopsOf (Go.Proofs.Tryz.f4.body.getD .skip)) := trivial
theorem laws_FnExactLogsMatch.den (k : Nat) (x : Sig.In laws_FnExactLogsMatch.sg.ps) : denFn laws_FnExactLogsMatch.E k Go.Proofs.Tryz.f4 laws_FnExactLogsMatch.sg laws_FnExactLogsMatch.hd (runL k laws_FnExactLogsMatch.hd (laws_FnExactLogsMatch.lps k)) x = laws_FnExactLogsMatch.F k x := by kernel_rfl
theorem laws_FnExactLogsMatch.ok (k : Nat) : Contract Tryz.prog 4 laws_FnExactLogsMatch.sg (laws_FnExactLogsMatch.F k) := ok_of (E := laws_FnExactLogsMatch.E) (tysOk _ _) (eqsOk _) ⟨laws_szPair.ok k, laws_toPair.ok k, laws_eqPair.ok k, spec_LogsMatch.ok k, impl_LogsMatch.ok k, trivial⟩ Tryz.func4 rfl (by kernel_rfl) (laws_FnExactLogsMatch.loops k) (laws_FnExactLogsMatch.den k)
def spec_l14Peer.sg : Sig := ⟨[.r kPair, .b (.int .i64)], [((.int .i64), .rd)]⟩
def spec_l14Peer.E : Env := ⟨tys, bys, [(23, ⟨spec_l14Fault.sg, spec_l14Fault.F⟩), (81, ⟨spec_l7Peer.sg, spec_l7Peer.F⟩)], eqs⟩
def spec_l14Peer.F (k : Nat) (x : ((((Int × (Int × (Int × Unit))) × (Int × ((List ((Int × (Int × Unit)) × (Int × (Int × (Int × (Bool × (Int × (Int × Unit)))))))) × ((List ((Int × (Int × Unit)) × (Int × (Int × (Int × (Bool × (Int × (Int × Unit)))))))) × Unit)))) × ((List (Int × (Bool × (Int × (Int × ((List (Int × ((Int × (Int × ((List Int) × Unit))) × Unit))) × (Int × (Int × (Int × (Int × Unit)))))))))) × ((List (Int × ((List Int) × (Int × ((List Int) × Unit))))) × ((List (Int × (Int × (Int × (Int × (Int × (Bool × ((Int × ((Int × (Int × ((List Int) × Unit))) × Unit)) × Unit)))))))) × ((List (Int × ((Int × (Int × ((List Int) × Unit))) × Unit))) × Unit))))) × (Int × Unit))) : Option ((Int × Unit) × Unit) :=
  (spec_l14Fault.F k (x.1, ())).bind fun y0 =>
  bif (y0.1.1 != (0 : Int)) then
  (some y0)
  else (spec_l7Peer.F k x.2).bind fun y1 =>
    bif (!y1.1.1) then
    (some (((3 : Int), ()), ()))
    else some (((0 : Int), ()), ())
def spec_l14Peer.hd : Hints := ⟨[], [], [4], [0, 1, 5], []⟩
def spec_l14Peer.lps (k : Nat) : List (Nat × Lp spec_l14Peer.sg.Out) := []
theorem spec_l14Peer.loops (k : Nat) : LoopsOk spec_l14Peer.E k spec_l14Peer.hd (spec_l14Peer.lps k) (loopsOf (Go.Proofs.Tryz.f41.body.getD .skip)) := trivial
theorem spec_l14Peer.den (k : Nat) (x : Sig.In spec_l14Peer.sg.ps) : denFn spec_l14Peer.E k Go.Proofs.Tryz.f41 spec_l14Peer.sg spec_l14Peer.hd (runL k spec_l14Peer.hd (spec_l14Peer.lps k)) x = spec_l14Peer.F k x := by kernel_rfl
theorem spec_l14Peer.ok (k : Nat) : Contract Tryz.prog 41 spec_l14Peer.sg (spec_l14Peer.F k) := ok_of (E := spec_l14Peer.E) (tysOk _ _) (eqsOk _) ⟨spec_l14Fault.ok k, spec_l7Peer.ok k, trivial⟩ Tryz.func41 rfl (by kernel_rfl) (spec_l14Peer.loops k) (spec_l14Peer.den k)
def spec_l15Begins.sg : Sig := ⟨[.b (.sl (.int .u8)), .b (.sl (.int .u8))], [(.bool, .rd)]⟩
def spec_l15Begins.E : Env := ⟨tys, bys, [], eqs⟩
def spec_l15Begins.F (k : Nat) (x : ((List Int) × ((List Int) × Unit))) : Option ((Bool × Unit) × Unit) :=
  bif (decide (((((List.length x.1) : Nat) : Int) ≤ (((List.length x.2.1) : Nat) : Int)))) then
  (bif (decide (((((List.length x.1) : Nat) : Int) ≤ (((List.length x.2.1) : Nat) : Int)))) then
    (Go.Dn.share (Go.Dn.cutL x.2.1 (0 : Int) ((((List.length x.1) : Nat) : Int) - (0 : Int))) fun s0 =>
      some (((Go.Dn.strEq (Go.Dn.strOf s0) (Go.Dn.strOf x.1)), ()), ()))
    else none)
  else some ((false, ()), ())
def spec_l15Begins.hd : Hints := ⟨[], [], [4], [0, 1], [(1, [0, 1, 0, 4, 15, 31, 63, 63, 191, 511, 1023, 63, 2111, 8191, 16383, 32767])]⟩
def spec_l15Begins.lps (k : Nat) : List (Nat × Lp spec_l15Begins.sg.Out) := []
theorem spec_l15Begins.loops (k : Nat) : LoopsOk spec_l15Begins.E k spec_l15Begins.hd (spec_l15Begins.lps k) (loopsOf (Go.Proofs.Tryz.f82.body.getD .skip)) := trivial
theorem spec_l15Begins.den (k : Nat) (x : Sig.In spec_l15Begins.sg.ps) : denFn spec_l15Begins.E k Go.Proofs.Tryz.f82 spec_l15Begins.sg spec_l15Begins.hd (runL k spec_l15Begins.hd (spec_l15Begins.lps k)) x = spec_l15Begins.F k x := by kernel_rfl
theorem spec_l15Begins.ok (k : Nat) : Contract Tryz.prog 82 spec_l15Begins.sg (spec_l15Begins.F k) := ok_of (E := spec_l15Begins.E) (tysOk _ _) (eqsOk _) trivial Tryz.func82 rfl (by kernel_rfl) (spec_l15Begins.loops k) (spec_l15Begins.den k)
def spec_l14Bytes.sg : Sig := ⟨[.b (.sl kEntry), .b (.int .i64)], [((.sl (.int .u8)), .fl)]⟩
def spec_l14Bytes.E : Env := ⟨tys, bys, [], eqs⟩
def spec_l14Bytes.l3 {ρ : Type} (k : Nat) (c0 : (List Int × Unit) → Option ρ) : Nat → List (Int × ((Int × (Int × ((List Int) × Unit))) × Unit)) → Int → Int → List Int → Option ρ
  | 0 => fun _ _ _ _ => none
  | n + 1 => fun x0 x1 x2 x3 => 
    bif (decide ((x2 < (((List.length x0) : Nat) : Int)))) then
    (bif (Go.Dn.inB x2 (((List.length x0) : Nat) : Int)) then
      (Go.Dn.share (List.getD x0 (Int.toNat x2) ((0 : Int), (((0 : Int), ((0 : Int), (([] : List Int), ()))), ()))) fun s0 =>
        bif (s0.2.1.1 == (2 : Int)) then
        (bif (Go.Dn.inB x2 (((List.length x0) : Nat) : Int)) then
          (Go.Dn.share (List.getD x0 (Int.toNat x2) ((0 : Int), (((0 : Int), ((0 : Int), (([] : List Int), ()))), ()))) fun s1 =>
            bif (s1.2.1.2.1 == x1) then
            (bif (Go.Dn.inB x2 (((List.length x0) : Nat) : Int)) then
              (Go.Dn.share (List.getD x0 (Int.toNat x2) ((0 : Int), (((0 : Int), ((0 : Int), (([] : List Int), ()))), ()))) fun s2 =>
                bif (Go.Dn.roomy ((List.length x3) + (List.length s2.2.1.2.2.1)) 1) then
                (Go.Dn.share (x3 ++ s2.2.1.2.2.1) fun s3 =>
                  spec_l14Bytes.l3 k c0 n x0 x1 (IntKind.wrap .i64 (x2 + (1 : Int))) s3)
                else none)
              else none)
            else spec_l14Bytes.l3 k c0 n x0 x1 (IntKind.wrap .i64 (x2 + (1 : Int))) x3)
          else none)
        else spec_l14Bytes.l3 k c0 n x0 x1 (IntKind.wrap .i64 (x2 + (1 : Int))) x3)
      else none)
    else c0 (x3, ())
def spec_l14Bytes.F (k : Nat) (x : ((List (Int × ((Int × (Int × ((List Int) × Unit))) × Unit))) × (Int × Unit))) : Option (((List Int) × Unit) × Unit) :=
  spec_l14Bytes.l3 k (fun e4 =>
    some (e4, ())) k x.1 x.2.1 (0 : Int) ([] : List Int)
def spec_l14Bytes.hd : Hints := ⟨[(3, ⟨[0, 1, 5, 6], []⟩)], [(0, [5]), (1, [0, 1, 5, 6])], [4], [0, 1, 5, 6], []⟩
def spec_l14Bytes.lps (k : Nat) : List (Nat × Lp spec_l14Bytes.sg.Out) := [(3, ⟨[.l kEntry, .i, .i, .l (.int .u8)], fun x => (fun x0 x1 x2 x3 => ⟨[(0, .v false [.fz kEntry x0]), (1, .v false [.int .i64 x1]), (5, .v false [.arr 0]), (6, .v false [.int .i64 x2])], [(0, .arr (.int .u8) true false x3)], []⟩) x.1 x.2.1 x.2.2.1 x.2.2.2.1, fun C n x => spec_l14Bytes.l3 k (fun y => C (.exit 0) ((fun y0 => ⟨[(5, .v false [.arr 0])], [(0, .arr (.int .u8) true false y0)], []⟩) y.1)) n x.1 x.2.1 x.2.2.1 x.2.2.2.1⟩)]
theorem spec_l14Bytes.loops (k : Nat) : LoopsOk spec_l14Bytes.E k spec_l14Bytes.hd (spec_l14Bytes.lps k) (loopsOf (Go.Proofs.Tryz.f83.body.getD .skip)) := ⟨⟨fun _ _ => rfl, fun _ _ _ => by kernel_rfl, fun _ => ⟨rfl, rfl⟩⟩, trivial⟩
theorem spec_l14Bytes.den (k : Nat) (x : Sig.In spec_l14Bytes.sg.ps) : denFn spec_l14Bytes.E k Go.Proofs.Tryz.f83 spec_l14Bytes.sg spec_l14Bytes.hd (runL k spec_l14Bytes.hd (spec_l14Bytes.lps k)) x = spec_l14Bytes.F k x := by kernel_rfl
theorem spec_l14Bytes.ok (k : Nat) : Contract Tryz.prog 83 spec_l14Bytes.sg (spec_l14Bytes.F k) := ok_of (E := spec_l14Bytes.E) (tysOk _ _) (eqsOk _) trivial Tryz.func83 rfl (by kernel_rfl) (spec_l14Bytes.loops k) (spec_l14Bytes.den k)
def spec_l15Taken.sg : Sig := ⟨[.r kPair, .b (.int .i64)], [(.bool, .rd)]⟩
def spec_l15Taken.E : Env := ⟨tys, bys, [(82, ⟨spec_l15Begins.sg, spec_l15Begins.F⟩), (83, ⟨spec_l14Bytes.sg, spec_l14Bytes.F⟩)], eqs⟩
def spec_l15Taken.l3 {ρ : Type} (k : Nat) (c0 : (Bool × Unit) → Option ρ) (c1 : ((((Int × (Int × (Int × Unit))) × (Int × ((List ((Int × (Int × Unit)) × (Int × (Int × (Int × (Bool × (Int × (Int × Unit)))))))) × ((List ((Int × (Int × Unit)) × (Int × (Int × (Int × (Bool × (Int × (Int × Unit)))))))) × Unit)))) × ((List (Int × (Bool × (Int × (Int × ((List (Int × ((Int × (Int × ((List Int) × Unit))) × Unit))) × (Int × (Int × (Int × (Int × Unit)))))))))) × ((List (Int × ((List Int) × (Int × ((List Int) × Unit))))) × ((List (Int × (Int × (Int × (Int × (Int × (Bool × ((Int × ((Int × (Int × ((List Int) × Unit))) × Unit)) × Unit)))))))) × ((List (Int × ((Int × (Int × ((List Int) × Unit))) × Unit))) × Unit))))) × (Int × ((Int × ((List Int) × (Int × ((List Int) × Unit)))) × Unit))) → Option ρ) : Nat → (((Int × (Int × (Int × Unit))) × (Int × ((List ((Int × (Int × Unit)) × (Int × (Int × (Int × (Bool × (Int × (Int × Unit)))))))) × ((List ((Int × (Int × Unit)) × (Int × (Int × (Int × (Bool × (Int × (Int × Unit)))))))) × Unit)))) × ((List (Int × (Bool × (Int × (Int × ((List (Int × ((Int × (Int × ((List Int) × Unit))) × Unit))) × (Int × (Int × (Int × (Int × Unit)))))))))) × ((List (Int × ((List Int) × (Int × ((List Int) × Unit))))) × ((List (Int × (Int × (Int × (Int × (Int × (Bool × ((Int × ((Int × (Int × ((List Int) × Unit))) × Unit)) × Unit)))))))) × ((List (Int × ((Int × (Int × ((List Int) × Unit))) × Unit))) × Unit))))) → Int → (Int × ((List Int) × (Int × ((List Int) × Unit)))) → Int → Option ρ
  | 0 => fun _ _ _ _ => none
  | n + 1 => fun x0 x1 x2 x3 => 
    bif (decide ((x3 < (2 : Int)))) then
    (bif (Go.Dn.inB x3 (((List.length x0.2.1) : Nat) : Int)) then
      (Go.Dn.share (List.getD x0.2.1 (Int.toNat x3) ((0 : Int), (false, ((0 : Int), ((0 : Int), (([] : List (Int × ((Int × (Int × ((List Int) × Unit))) × Unit))), ((0 : Int), ((0 : Int), ((0 : Int), ((0 : Int), ())))))))))) fun s1 =>
        (spec_l14Bytes.F k (s1.2.2.2.2.1, x1, ())).bind fun y2 =>
        (spec_l15Begins.F k (y2.1.1, x2.2.1, ())).bind fun y3 =>
        bif (!y3.1.1) then
        (c0 (false, ()))
        else spec_l15Taken.l3 k c0 c1 n x0 x1 x2 (IntKind.wrap .i64 (x3 + (1 : Int))))
      else none)
    else c1 (x0, x1, x2, ())
def spec_l15Taken.F (k : Nat) (x : ((((Int × (Int × (Int × Unit))) × (Int × ((List ((Int × (Int × Unit)) × (Int × (Int × (Int × (Bool × (Int × (Int × Unit)))))))) × ((List ((Int × (Int × Unit)) × (Int × (Int × (Int × (Bool × (Int × (Int × Unit)))))))) × Unit)))) × ((List (Int × (Bool × (Int × (Int × ((List (Int × ((Int × (Int × ((List Int) × Unit))) × Unit))) × (Int × (Int × (Int × (Int × Unit)))))))))) × ((List (Int × ((List Int) × (Int × ((List Int) × Unit))))) × ((List (Int × (Int × (Int × (Int × (Int × (Bool × ((Int × ((Int × (Int × ((List Int) × Unit))) × Unit)) × Unit)))))))) × ((List (Int × ((Int × (Int × ((List Int) × Unit))) × Unit))) × Unit))))) × (Int × Unit))) : Option ((Bool × Unit) × Unit) :=
  bif (Go.Dn.inB x.2.1 (((List.length x.1.2.2.1) : Nat) : Int)) then
  (Go.Dn.share (List.getD x.1.2.2.1 (Int.toNat x.2.1) ((0 : Int), (([] : List Int), ((0 : Int), (([] : List Int), ()))))) fun s0 =>
    spec_l15Taken.l3 k (fun e4 =>
      some (e4, ())) (fun e5 =>
      (spec_l14Bytes.F k (e5.1.2.2.2.2.1, e5.2.1, ())).bind fun y6 =>
      some (((decide ((e5.2.2.1.2.2.1 ≤ (((List.length y6.1.1) : Nat) : Int)))), ()), ())) k x.1 x.2.1 s0 (0 : Int))
  else none
def spec_l15Taken.hd : Hints := ⟨[(3, ⟨[0, 1, 5, 6], []⟩)], [(0, [0, 1, 5]), (1, [0, 1, 5, 6])], [4], [0, 1, 5, 6], [(5, [0, 1, 3, 7, 0, 31, 63, 127, 0, 511, 0, 1024, 3072, 7168, 16383, 32767]), (7, [0, 1, 3, 7, 0, 16, 48, 112, 0, 496, 1008, 2047, 4095])]⟩
def spec_l15Taken.lps (k : Nat) : List (Nat × Lp spec_l15Taken.sg.Out) := [(3, ⟨[.x kPair, .i, .x kWire, .i], fun x => (fun x0 x1 x2 x3 => ⟨[(0, .v false [.fel kPair x0 0]), (1, .v false [.int .i64 x1]), (5, .v false [.fel kWire x2 0]), (6, .v false [.int .i64 x3])], [], []⟩) x.1 x.2.1 x.2.2.1 x.2.2.2.1, fun C n x => spec_l15Taken.l3 k (fun y => C .ret ((fun y0 => ⟨[(4, .v false [.bool y0])], [], []⟩) y.1)) (fun y => C (.exit 0) ((fun y0 y1 y2 => ⟨[(0, .v false [.fel kPair y0 0]), (1, .v false [.int .i64 y1]), (5, .v false [.fel kWire y2 0])], [], []⟩) y.1 y.2.1 y.2.2.1)) n x.1 x.2.1 x.2.2.1 x.2.2.2.1⟩)]
theorem spec_l15Taken.loops (k : Nat) : LoopsOk spec_l15Taken.E k spec_l15Taken.hd (spec_l15Taken.lps k) (loopsOf (Go.Proofs.Tryz.f42.body.getD .skip)) := ⟨⟨fun _ _ => rfl, fun _ _ _ => by kernel_rfl, fun _ => ⟨rfl, rfl⟩⟩, trivial⟩
theorem spec_l15Taken.den (k : Nat) (x : Sig.In spec_l15Taken.sg.ps) : denFn spec_l15Taken.E k Go.Proofs.Tryz.f42 spec_l15Taken.sg spec_l15Taken.hd (runL k spec_l15Taken.hd (spec_l15Taken.lps k)) x = spec_l15Taken.F k x := by kernel_rfl
theorem spec_l15Taken.ok (k : Nat) : Contract Tryz.prog 42 spec_l15Taken.sg (spec_l15Taken.F k) := ok_of (E := spec_l15Taken.E) (tysOk _ _) (eqsOk _) ⟨spec_l15Begins.ok k, spec_l14Bytes.ok k, trivial⟩ Tryz.func42 rfl (by kernel_rfl) (spec_l15Taken.loops k) (spec_l15Taken.den k)
def spec_TakenRight.sg : Sig := ⟨[.b kPair, .b (.int .i64)], [(.bool, .rd)]⟩
def spec_TakenRight.E : Env := ⟨tys, bys, [(41, ⟨spec_l14Peer.sg, spec_l14Peer.F⟩), (42, ⟨spec_l15Taken.sg, spec_l15Taken.F⟩)], eqs⟩
def spec_TakenRight.F (k : Nat) (x : ((((Int × (Int × (Int × Unit))) × (Int × ((List ((Int × (Int × Unit)) × (Int × (Int × (Int × (Bool × (Int × (Int × Unit)))))))) × ((List ((Int × (Int × Unit)) × (Int × (Int × (Int × (Bool × (Int × (Int × Unit)))))))) × Unit)))) × ((List (Int × (Bool × (Int × (Int × ((List (Int × ((Int × (Int × ((List Int) × Unit))) × Unit))) × (Int × (Int × (Int × (Int × Unit)))))))))) × ((List (Int × ((List Int) × (Int × ((List Int) × Unit))))) × ((List (Int × (Int × (Int × (Int × (Int × (Bool × ((Int × ((Int × (Int × ((List Int) × Unit))) × Unit)) × Unit)))))))) × ((List (Int × ((Int × (Int × ((List Int) × Unit))) × Unit))) × Unit))))) × (Int × Unit))) : Option ((Bool × Unit) × Unit) :=
  (spec_l14Peer.F k x).bind fun y0 =>
  bif (y0.1.1 == (0 : Int)) then
  ((spec_l15Taken.F k x).bind fun y1 =>
    some y1)
  else some ((false, ()), ())
def spec_TakenRight.hd : Hints := ⟨[], [], [4], [0, 1, 2], []⟩
def spec_TakenRight.lps (k : Nat) : List (Nat × Lp spec_TakenRight.sg.Out) := []
theorem spec_TakenRight.loops (k : Nat) : LoopsOk spec_TakenRight.E k spec_TakenRight.hd (spec_TakenRight.lps k) (loopsOf (Go.Proofs.Tryz.f16.body.getD .skip)) := trivial
theorem spec_TakenRight.den (k : Nat) (x : Sig.In spec_TakenRight.sg.ps) : denFn spec_TakenRight.E k Go.Proofs.Tryz.f16 spec_TakenRight.sg spec_TakenRight.hd (runL k spec_TakenRight.hd (spec_TakenRight.lps k)) x = spec_TakenRight.F k x := by kernel_rfl
theorem spec_TakenRight.ok (k : Nat) : Contract Tryz.prog 16 spec_TakenRight.sg (spec_TakenRight.F k) := ok_of (E := spec_TakenRight.E) (tysOk _ _) (eqsOk _) ⟨spec_l14Peer.ok k, spec_l15Taken.ok k, trivial⟩ Tryz.func16 rfl (by kernel_rfl) (spec_TakenRight.loops k) (spec_TakenRight.den k)
def impl_peerCode.sg : Sig := ⟨[.b kPair, .b (.int .i64)], [((.int .i64), .rd)]⟩
def impl_peerCode.E : Env := ⟨tys, bys, [(30, ⟨impl_PairFault.sg, impl_PairFault.F⟩), (84, ⟨impl_isPeer.sg, impl_isPeer.F⟩)], eqs⟩
def impl_peerCode.F (k : Nat) (x : ((((Int × (Int × (Int × Unit))) × (Int × ((List ((Int × (Int × Unit)) × (Int × (Int × (Int × (Bool × (Int × (Int × Unit)))))))) × ((List ((Int × (Int × Unit)) × (Int × (Int × (Int × (Bool × (Int × (Int × Unit)))))))) × Unit)))) × ((List (Int × (Bool × (Int × (Int × ((List (Int × ((Int × (Int × ((List Int) × Unit))) × Unit))) × (Int × (Int × (Int × (Int × Unit)))))))))) × ((List (Int × ((List Int) × (Int × ((List Int) × Unit))))) × ((List (Int × (Int × (Int × (Int × (Int × (Bool × ((Int × ((Int × (Int × ((List Int) × Unit))) × Unit)) × Unit)))))))) × ((List (Int × ((Int × (Int × ((List Int) × Unit))) × Unit))) × Unit))))) × (Int × Unit))) : Option ((Int × Unit) × Unit) :=
  (impl_PairFault.F k (x.1, ())).bind fun y0 =>
  bif (y0.1.1 == (0 : Int)) then
  ((impl_isPeer.F k x.2).bind fun y1 =>
    bif (!y1.1.1) then
    (some (((3 : Int), ()), ()))
    else some y0)
  else some y0
def impl_peerCode.hd : Hints := ⟨[], [], [4], [0, 1, 2, 5], []⟩
def impl_peerCode.lps (k : Nat) : List (Nat × Lp impl_peerCode.sg.Out) := []
theorem impl_peerCode.loops (k : Nat) : LoopsOk impl_peerCode.E k impl_peerCode.hd (impl_peerCode.lps k) (loopsOf (Go.Proofs.Tryz.f43.body.getD .skip)) := trivial
theorem impl_peerCode.den (k : Nat) (x : Sig.In impl_peerCode.sg.ps) : denFn impl_peerCode.E k Go.Proofs.Tryz.f43 impl_peerCode.sg impl_peerCode.hd (runL k impl_peerCode.hd (impl_peerCode.lps k)) x = impl_peerCode.F k x := by kernel_rfl
theorem impl_peerCode.ok (k : Nat) : Contract Tryz.prog 43 impl_peerCode.sg (impl_peerCode.F k) := ok_of (E := impl_peerCode.E) (tysOk _ _) (eqsOk _) ⟨impl_PairFault.ok k, impl_isPeer.ok k, trivial⟩ Tryz.func43 rfl (by kernel_rfl) (impl_peerCode.loops k) (impl_peerCode.den k)
def bytes_HasPrefix.sg : Sig := ⟨[.b (.sl (.int .u8)), .b (.sl (.int .u8))], [(.bool, .rd)]⟩
def bytes_HasPrefix.E : Env := ⟨tys, bys, [(116, ⟨bytes_Equal.sg, bytes_Equal.F⟩)], eqs⟩
def bytes_HasPrefix.F (k : Nat) (x : ((List Int) × ((List Int) × Unit))) : Option ((Bool × Unit) × Unit) :=
  bif (decide (((((List.length x.1) : Nat) : Int) ≥ (((List.length x.2.1) : Nat) : Int)))) then
  (bif (decide (((((List.length x.2.1) : Nat) : Int) ≤ (((List.length x.1) : Nat) : Int)))) then
    (Go.Dn.share (Go.Dn.cutL x.1 (0 : Int) ((((List.length x.2.1) : Nat) : Int) - (0 : Int))) fun s0 =>
      (bytes_Equal.F k (s0, x.2)).bind fun y1 =>
      some y1)
    else none)
  else some ((false, ()), ())
def bytes_HasPrefix.hd : Hints := ⟨[], [], [4], [0, 1], []⟩
def bytes_HasPrefix.lps (k : Nat) : List (Nat × Lp bytes_HasPrefix.sg.Out) := []
theorem bytes_HasPrefix.loops (k : Nat) : LoopsOk bytes_HasPrefix.E k bytes_HasPrefix.hd (bytes_HasPrefix.lps k) (loopsOf (Go.Proofs.Tryz.f85.body.getD .skip)) := trivial
theorem bytes_HasPrefix.den (k : Nat) (x : Sig.In bytes_HasPrefix.sg.ps) : denFn bytes_HasPrefix.E k Go.Proofs.Tryz.f85 bytes_HasPrefix.sg bytes_HasPrefix.hd (runL k bytes_HasPrefix.hd (bytes_HasPrefix.lps k)) x = bytes_HasPrefix.F k x := by kernel_rfl
theorem bytes_HasPrefix.ok (k : Nat) : Contract Tryz.prog 85 bytes_HasPrefix.sg (bytes_HasPrefix.F k) := ok_of (E := bytes_HasPrefix.E) (tysOk _ _) (eqsOk _) ⟨bytes_Equal.ok k, trivial⟩ Tryz.func85 rfl (by kernel_rfl) (bytes_HasPrefix.loops k) (bytes_HasPrefix.den k)
def impl_inputs.sg : Sig := ⟨[.b (.sl kEntry), .b (.int .i64)], [((.int .i64), .rd)]⟩
def impl_inputs.E : Env := ⟨tys, bys, [(104, ⟨impl_size_byte.sg, impl_size_byte.F⟩)], eqs⟩
def impl_inputs.l3 {ρ : Type} (k : Nat) (c0 : (Int × Unit) → Option ρ) : Nat → Int → Int → List (Int × ((Int × (Int × ((List Int) × Unit))) × Unit)) → Int → Int → Option ρ
  | 0 => fun _ _ _ _ _ => none
  | n + 1 => fun x0 x1 x2 x3 x4 => 
    bif (decide ((x4 < x3))) then
    (bif (Go.Dn.inB x4 (((List.length x2) : Nat) : Int)) then
      (Go.Dn.share (List.getD x2 (Int.toNat x4) ((0 : Int), (((0 : Int), ((0 : Int), (([] : List Int), ()))), ()))) fun s0 =>
        bif (s0.2.1.1 == (2 : Int)) then
        (bif (s0.2.1.2.1 == x0) then
          ((impl_size_byte.F k s0.2.1.2.2).bind fun y1 =>
            impl_inputs.l3 k c0 n x0 (IntKind.wrap .i64 (x1 + y1.1.1)) x2 x3 (IntKind.wrap .i64 (x4 + (1 : Int))))
          else impl_inputs.l3 k c0 n x0 x1 x2 x3 (IntKind.wrap .i64 (x4 + (1 : Int))))
        else impl_inputs.l3 k c0 n x0 x1 x2 x3 (IntKind.wrap .i64 (x4 + (1 : Int))))
      else none)
    else c0 (x1, ())
def impl_inputs.F (k : Nat) (x : ((List (Int × ((Int × (Int × ((List Int) × Unit))) × Unit))) × (Int × Unit))) : Option ((Int × Unit) × Unit) :=
  impl_inputs.l3 k (fun e2 =>
    some (e2, ())) k x.2.1 (0 : Int) x.1 (((List.length x.1) : Nat) : Int) (0 : Int)
def impl_inputs.hd : Hints := ⟨[(3, ⟨[1, 5, 8, 9, 10], []⟩)], [(0, [5]), (1, [1, 5, 8, 9, 10])], [4], [0, 1, 5, 7, 8, 9, 10], []⟩
def impl_inputs.lps (k : Nat) : List (Nat × Lp impl_inputs.sg.Out) := [(3, ⟨[.i, .i, .l kEntry, .i, .i], fun x => (fun x0 x1 x2 x3 x4 => ⟨[(1, .v false [.int .i64 x0]), (5, .v false [.int .i64 x1]), (8, .v false [.fz kEntry x2]), (9, .v false [.int .i64 x3]), (10, .v false [.int .i64 x4])], [], []⟩) x.1 x.2.1 x.2.2.1 x.2.2.2.1 x.2.2.2.2.1, fun C n x => impl_inputs.l3 k (fun y => C (.exit 0) ((fun y0 => ⟨[(5, .v false [.int .i64 y0])], [], []⟩) y.1)) n x.1 x.2.1 x.2.2.1 x.2.2.2.1 x.2.2.2.2.1⟩)]
theorem impl_inputs.loops (k : Nat) : LoopsOk impl_inputs.E k impl_inputs.hd (impl_inputs.lps k) (loopsOf (Go.Proofs.Tryz.f86.body.getD .skip)) := ⟨⟨fun _ _ => rfl, fun _ _ _ => by kernel_rfl, fun _ => ⟨rfl, rfl⟩⟩, trivial⟩
theorem impl_inputs.den (k : Nat) (x : Sig.In impl_inputs.sg.ps) : denFn impl_inputs.E k Go.Proofs.Tryz.f86 impl_inputs.sg impl_inputs.hd (runL k impl_inputs.hd (impl_inputs.lps k)) x = impl_inputs.F k x := by kernel_rfl
theorem impl_inputs.ok (k : Nat) : Contract Tryz.prog 86 impl_inputs.sg (impl_inputs.F k) := ok_of (E := impl_inputs.E) (tysOk _ _) (eqsOk _) ⟨impl_size_byte.ok k, trivial⟩ Tryz.func86 rfl (by kernel_rfl) (impl_inputs.loops k) (impl_inputs.den k)
def impl_Pair_takenRight.sg : Sig := ⟨[.r kPair, .b (.int .i64)], [(.bool, .rd)]⟩
def impl_Pair_takenRight.E : Env := ⟨tys, bys, [(85, ⟨bytes_HasPrefix.sg, bytes_HasPrefix.F⟩), (86, ⟨impl_inputs.sg, impl_inputs.F⟩)], eqs⟩
def impl_Pair_takenRight.l7 {ρ : Type} (k : Nat) (c0 : ((((Int × (Int × (Int × Unit))) × (Int × ((List ((Int × (Int × Unit)) × (Int × (Int × (Int × (Bool × (Int × (Int × Unit)))))))) × ((List ((Int × (Int × Unit)) × (Int × (Int × (Int × (Bool × (Int × (Int × Unit)))))))) × Unit)))) × ((List (Int × (Bool × (Int × (Int × ((List (Int × ((Int × (Int × ((List Int) × Unit))) × Unit))) × (Int × (Int × (Int × (Int × Unit)))))))))) × ((List (Int × ((List Int) × (Int × ((List Int) × Unit))))) × ((List (Int × (Int × (Int × (Int × (Int × (Bool × ((Int × ((Int × (Int × ((List Int) × Unit))) × Unit)) × Unit)))))))) × ((List (Int × ((Int × (Int × ((List Int) × Unit))) × Unit))) × Unit))))) × (Int × (List (Int × (Bool × (Int × (Int × ((List (Int × ((Int × (Int × ((List Int) × Unit))) × Unit))) × (Int × (Int × (Int × (Int × Unit))))))))) × (Int × (Int × (Int × (List Int × (Int × (List Int × (List Int × Unit)))))))))) → Option ρ) : Nat → (((Int × (Int × (Int × Unit))) × (Int × ((List ((Int × (Int × Unit)) × (Int × (Int × (Int × (Bool × (Int × (Int × Unit)))))))) × ((List ((Int × (Int × Unit)) × (Int × (Int × (Int × (Bool × (Int × (Int × Unit)))))))) × Unit)))) × ((List (Int × (Bool × (Int × (Int × ((List (Int × ((Int × (Int × ((List Int) × Unit))) × Unit))) × (Int × (Int × (Int × (Int × Unit)))))))))) × ((List (Int × ((List Int) × (Int × ((List Int) × Unit))))) × ((List (Int × (Int × (Int × (Int × (Int × (Bool × ((Int × ((Int × (Int × ((List Int) × Unit))) × Unit)) × Unit)))))))) × ((List (Int × ((Int × (Int × ((List Int) × Unit))) × Unit))) × Unit))))) → Int → List (Int × (Bool × (Int × (Int × ((List (Int × ((Int × (Int × ((List Int) × Unit))) × Unit))) × (Int × (Int × (Int × (Int × Unit))))))))) → Int → Int → List (Int × ((Int × (Int × ((List Int) × Unit))) × Unit)) → Int → Int → Int → List Int → Int → List Int → List Int → Option ρ
  | 0 => fun _ _ _ _ _ _ _ _ _ _ _ _ _ => none
  | n + 1 => fun x0 x1 x2 x3 x4 x5 x6 x7 x8 x9 x10 x11 x12 => 
    bif (decide ((x7 < x6))) then
    (bif (Go.Dn.inB x7 (((List.length x5) : Nat) : Int)) then
      (Go.Dn.share (List.getD x5 (Int.toNat x7) ((0 : Int), (((0 : Int), ((0 : Int), (([] : List Int), ()))), ()))) fun s2 =>
        bif (s2.2.1.1 == (2 : Int)) then
        (bif (s2.2.1.2.1 == x1) then
          (bif (Go.Dn.roomy ((List.length x12) + (List.length s2.2.1.2.2.1)) 1) then
            (Go.Dn.share (x12 ++ s2.2.1.2.2.1) fun s3 =>
              impl_Pair_takenRight.l7 k c0 n x0 x1 x2 x3 x4 x5 x6 (IntKind.wrap .i64 (x7 + (1 : Int))) x8 x9 x10 x11 s3)
            else none)
          else impl_Pair_takenRight.l7 k c0 n x0 x1 x2 x3 x4 x5 x6 (IntKind.wrap .i64 (x7 + (1 : Int))) x8 x9 x10 x11 x12)
        else impl_Pair_takenRight.l7 k c0 n x0 x1 x2 x3 x4 x5 x6 (IntKind.wrap .i64 (x7 + (1 : Int))) x8 x9 x10 x11 x12)
      else none)
    else c0 (x0, x1, x2, x3, x4, x8, x9, x10, x11, x12, ())
def impl_Pair_takenRight.l3 {ρ : Type} (k : Nat) (c0 : (Bool × Unit) → Option ρ) (c1 : ((((Int × (Int × (Int × Unit))) × (Int × ((List ((Int × (Int × Unit)) × (Int × (Int × (Int × (Bool × (Int × (Int × Unit)))))))) × ((List ((Int × (Int × Unit)) × (Int × (Int × (Int × (Bool × (Int × (Int × Unit)))))))) × Unit)))) × ((List (Int × (Bool × (Int × (Int × ((List (Int × ((Int × (Int × ((List Int) × Unit))) × Unit))) × (Int × (Int × (Int × (Int × Unit)))))))))) × ((List (Int × ((List Int) × (Int × ((List Int) × Unit))))) × ((List (Int × (Int × (Int × (Int × (Int × (Bool × ((Int × ((Int × (Int × ((List Int) × Unit))) × Unit)) × Unit)))))))) × ((List (Int × ((Int × (Int × ((List Int) × Unit))) × Unit))) × Unit))))) × (Int × (Int × (List Int × (Int × (List Int × Unit)))))) → Option ρ) : Nat → (((Int × (Int × (Int × Unit))) × (Int × ((List ((Int × (Int × Unit)) × (Int × (Int × (Int × (Bool × (Int × (Int × Unit)))))))) × ((List ((Int × (Int × Unit)) × (Int × (Int × (Int × (Bool × (Int × (Int × Unit)))))))) × Unit)))) × ((List (Int × (Bool × (Int × (Int × ((List (Int × ((Int × (Int × ((List Int) × Unit))) × Unit))) × (Int × (Int × (Int × (Int × Unit)))))))))) × ((List (Int × ((List Int) × (Int × ((List Int) × Unit))))) × ((List (Int × (Int × (Int × (Int × (Int × (Bool × ((Int × ((Int × (Int × ((List Int) × Unit))) × Unit)) × Unit)))))))) × ((List (Int × ((Int × (Int × ((List Int) × Unit))) × Unit))) × Unit))))) → Int → List (Int × (Bool × (Int × (Int × ((List (Int × ((Int × (Int × ((List Int) × Unit))) × Unit))) × (Int × (Int × (Int × (Int × Unit))))))))) → Int → Int → Int → List Int → Int → List Int → Option ρ
  | 0 => fun _ _ _ _ _ _ _ _ _ => none
  | n + 1 => fun x0 x1 x2 x3 x4 x5 x6 x7 x8 => 
    bif (decide ((x4 < x3))) then
    (bif (Go.Dn.inB x4 (((List.length x2) : Nat) : Int)) then
      (Go.Dn.share (List.getD x2 (Int.toNat x4) ((0 : Int), (false, ((0 : Int), ((0 : Int), (([] : List (Int × ((Int × (Int × ((List Int) × Unit))) × Unit))), ((0 : Int), ((0 : Int), ((0 : Int), ((0 : Int), ())))))))))) fun s1 =>
        impl_Pair_takenRight.l7 k (fun e4 =>
          (bytes_HasPrefix.F k (e4.2.2.2.2.2.2.1, e4.2.2.2.2.2.2.2.2.2)).bind fun y5 =>
          bif (!y5.1.1) then
          (c0 (false, ()))
          else impl_Pair_takenRight.l3 k c0 c1 n e4.1 e4.2.1 e4.2.2.1 e4.2.2.2.1 (IntKind.wrap .i64 (e4.2.2.2.2.1 + (1 : Int))) e4.2.2.2.2.2.1 e4.2.2.2.2.2.2.1 e4.2.2.2.2.2.2.2.1 e4.2.2.2.2.2.2.2.2.1) k x0 x1 x2 x3 x4 s1.2.2.2.2.1 (((List.length s1.2.2.2.2.1) : Nat) : Int) (0 : Int) x5 x6 x7 x8 ([] : List Int))
      else none)
    else c1 (x0, x1, x5, x6, x7, x8, ())
def impl_Pair_takenRight.F (k : Nat) (x : ((((Int × (Int × (Int × Unit))) × (Int × ((List ((Int × (Int × Unit)) × (Int × (Int × (Int × (Bool × (Int × (Int × Unit)))))))) × ((List ((Int × (Int × Unit)) × (Int × (Int × (Int × (Bool × (Int × (Int × Unit)))))))) × Unit)))) × ((List (Int × (Bool × (Int × (Int × ((List (Int × ((Int × (Int × ((List Int) × Unit))) × Unit))) × (Int × (Int × (Int × (Int × Unit)))))))))) × ((List (Int × ((List Int) × (Int × ((List Int) × Unit))))) × ((List (Int × (Int × (Int × (Int × (Int × (Bool × ((Int × ((Int × (Int × ((List Int) × Unit))) × Unit)) × Unit)))))))) × ((List (Int × ((Int × (Int × ((List Int) × Unit))) × Unit))) × Unit))))) × (Int × Unit))) : Option ((Bool × Unit) × Unit) :=
  bif (Go.Dn.inB x.2.1 (((List.length x.1.2.2.1) : Nat) : Int)) then
  (Go.Dn.share (List.getD x.1.2.2.1 (Int.toNat x.2.1) ((0 : Int), (([] : List Int), ((0 : Int), (([] : List Int), ()))))) fun s0 =>
    impl_Pair_takenRight.l3 k (fun e6 =>
      some (e6, ())) (fun e7 =>
      (impl_inputs.F k (e7.1.2.2.2.2.1, e7.2.1, ())).bind fun y8 =>
      some (((decide ((e7.2.2.2.2.1 ≤ y8.1.1))), ()), ())) k x.1 x.2.1 x.1.2.1 (((List.length x.1.2.1) : Nat) : Int) (0 : Int) s0.1 s0.2.1 s0.2.2.1 s0.2.2.2.1)
  else none
def impl_Pair_takenRight.hd : Hints := ⟨[(3, ⟨[0, 1, 5, 21, 22, 23], []⟩), (7, ⟨[0, 1, 5, 8, 21, 22, 23, 29, 30, 31], []⟩)], [(0, [0, 1, 5]), (1, [0, 1, 5, 21, 22, 23]), (2, [0, 1, 5, 8, 21, 22, 23]), (3, [0, 1, 5, 8, 21, 22, 23, 29, 30, 31])], [4], [0, 1, 5, 7, 8, 10, 21, 22, 23, 29, 30, 31], [(15, [0, 1, 0, 4, 12, 28, 0, 124, 255, 511])]⟩
def impl_Pair_takenRight.lps (k : Nat) : List (Nat × Lp impl_Pair_takenRight.sg.Out) := [(7, ⟨[.x kPair, .i, .l kNode, .i, .i, .l kEntry, .i, .i, .i, .l (.int .u8), .i, .l (.int .u8), .l (.int .u8)], fun x => (fun x0 x1 x2 x3 x4 x5 x6 x7 x8 x9 x10 x11 x12 => ⟨[(0, .v false [.fel kPair x0 0]), (1, .v false [.int .i64 x1]), (5, .v false [.box 0 0]), (8, .v false [.arr 2]), (21, .v false [.fz kNode x2]), (22, .v false [.int .i64 x3]), (23, .v false [.int .i64 x4]), (29, .v false [.fz kEntry x5]), (30, .v false [.int .i64 x6]), (31, .v false [.int .i64 x7])], [(0, .box [.int .i64 x8, .fz (.int .u8) x9, .int .i64 x10, .fz (.int .u8) x11]), (2, .arr (.int .u8) true false x12)], []⟩) x.1 x.2.1 x.2.2.1 x.2.2.2.1 x.2.2.2.2.1 x.2.2.2.2.2.1 x.2.2.2.2.2.2.1 x.2.2.2.2.2.2.2.1 x.2.2.2.2.2.2.2.2.1 x.2.2.2.2.2.2.2.2.2.1 x.2.2.2.2.2.2.2.2.2.2.1 x.2.2.2.2.2.2.2.2.2.2.2.1 x.2.2.2.2.2.2.2.2.2.2.2.2.1, fun C n x => impl_Pair_takenRight.l7 k (fun y => C (.exit 2) ((fun y0 y1 y2 y3 y4 y5 y6 y7 y8 y9 => ⟨[(0, .v false [.fel kPair y0 0]), (1, .v false [.int .i64 y1]), (5, .v false [.box 0 0]), (8, .v false [.arr 2]), (21, .v false [.fz kNode y2]), (22, .v false [.int .i64 y3]), (23, .v false [.int .i64 y4])], [(0, .box [.int .i64 y5, .fz (.int .u8) y6, .int .i64 y7, .fz (.int .u8) y8]), (2, .arr (.int .u8) true false y9)], []⟩) y.1 y.2.1 y.2.2.1 y.2.2.2.1 y.2.2.2.2.1 y.2.2.2.2.2.1 y.2.2.2.2.2.2.1 y.2.2.2.2.2.2.2.1 y.2.2.2.2.2.2.2.2.1 y.2.2.2.2.2.2.2.2.2.1)) n x.1 x.2.1 x.2.2.1 x.2.2.2.1 x.2.2.2.2.1 x.2.2.2.2.2.1 x.2.2.2.2.2.2.1 x.2.2.2.2.2.2.2.1 x.2.2.2.2.2.2.2.2.1 x.2.2.2.2.2.2.2.2.2.1 x.2.2.2.2.2.2.2.2.2.2.1 x.2.2.2.2.2.2.2.2.2.2.2.1 x.2.2.2.2.2.2.2.2.2.2.2.2.1⟩),
  (3, ⟨[.x kPair, .i, .l kNode, .i, .i, .i, .l (.int .u8), .i, .l (.int .u8)], fun x => (fun x0 x1 x2 x3 x4 x5 x6 x7 x8 => ⟨[(0, .v false [.fel kPair x0 0]), (1, .v false [.int .i64 x1]), (5, .v false [.box 0 0]), (21, .v false [.fz kNode x2]), (22, .v false [.int .i64 x3]), (23, .v false [.int .i64 x4])], [(0, .box [.int .i64 x5, .fz (.int .u8) x6, .int .i64 x7, .fz (.int .u8) x8])], []⟩) x.1 x.2.1 x.2.2.1 x.2.2.2.1 x.2.2.2.2.1 x.2.2.2.2.2.1 x.2.2.2.2.2.2.1 x.2.2.2.2.2.2.2.1 x.2.2.2.2.2.2.2.2.1, fun C n x => impl_Pair_takenRight.l3 k (fun y => C .ret ((fun y0 => ⟨[(4, .v false [.bool y0])], [], []⟩) y.1)) (fun y => C (.exit 0) ((fun y0 y1 y2 y3 y4 y5 => ⟨[(0, .v false [.fel kPair y0 0]), (1, .v false [.int .i64 y1]), (5, .v false [.box 0 0])], [(0, .box [.int .i64 y2, .fz (.int .u8) y3, .int .i64 y4, .fz (.int .u8) y5])], []⟩) y.1 y.2.1 y.2.2.1 y.2.2.2.1 y.2.2.2.2.1 y.2.2.2.2.2.1)) n x.1 x.2.1 x.2.2.1 x.2.2.2.1 x.2.2.2.2.1 x.2.2.2.2.2.1 x.2.2.2.2.2.2.1 x.2.2.2.2.2.2.2.1 x.2.2.2.2.2.2.2.2.1⟩)]
theorem impl_Pair_takenRight.loops (k : Nat) : LoopsOk impl_Pair_takenRight.E k impl_Pair_takenRight.hd (impl_Pair_takenRight.lps k) (loopsOf (Go.Proofs.Tryz.f44.body.getD .skip)) := ⟨⟨fun _ _ => rfl, fun _ _ _ => by kernel_rfl, fun _ => ⟨rfl, rfl⟩⟩, ⟨⟨fun _ _ => rfl, fun _ _ _ => by kernel_rfl, fun _ => ⟨rfl, rfl⟩⟩, trivial⟩⟩
theorem impl_Pair_takenRight.den (k : Nat) (x : Sig.In impl_Pair_takenRight.sg.ps) : denFn impl_Pair_takenRight.E k Go.Proofs.Tryz.f44 impl_Pair_takenRight.sg impl_Pair_takenRight.hd (runL k impl_Pair_takenRight.hd (impl_Pair_takenRight.lps k)) x = impl_Pair_takenRight.F k x := by kernel_rfl
theorem impl_Pair_takenRight.ok (k : Nat) : Contract Tryz.prog 44 impl_Pair_takenRight.sg (impl_Pair_takenRight.F k) := ok_of (E := impl_Pair_takenRight.E) (tysOk _ _) (eqsOk _) ⟨bytes_HasPrefix.ok k, impl_inputs.ok k, trivial⟩ Tryz.func44 rfl (by kernel_rfl) (impl_Pair_takenRight.loops k) (impl_Pair_takenRight.den k)
def impl_TakenRight.sg : Sig := ⟨[.b kPair, .b (.int .i64)], [(.bool, .rd)]⟩
def impl_TakenRight.E : Env := ⟨tys, bys, [(43, ⟨impl_peerCode.sg, impl_peerCode.F⟩), (44, ⟨impl_Pair_takenRight.sg, impl_Pair_takenRight.F⟩)], eqs⟩
def impl_TakenRight.F (k : Nat) (x : ((((Int × (Int × (Int × Unit))) × (Int × ((List ((Int × (Int × Unit)) × (Int × (Int × (Int × (Bool × (Int × (Int × Unit)))))))) × ((List ((Int × (Int × Unit)) × (Int × (Int × (Int × (Bool × (Int × (Int × Unit)))))))) × Unit)))) × ((List (Int × (Bool × (Int × (Int × ((List (Int × ((Int × (Int × ((List Int) × Unit))) × Unit))) × (Int × (Int × (Int × (Int × Unit)))))))))) × ((List (Int × ((List Int) × (Int × ((List Int) × Unit))))) × ((List (Int × (Int × (Int × (Int × (Int × (Bool × ((Int × ((Int × (Int × ((List Int) × Unit))) × Unit)) × Unit)))))))) × ((List (Int × ((Int × (Int × ((List Int) × Unit))) × Unit))) × Unit))))) × (Int × Unit))) : Option ((Bool × Unit) × Unit) :=
  (impl_peerCode.F k x).bind fun y0 =>
  bif (y0.1.1 == (0 : Int)) then
  ((impl_Pair_takenRight.F k x).bind fun y1 =>
    some y1)
  else some ((false, ()), ())
def impl_TakenRight.hd : Hints := ⟨[], [], [4], [0, 1, 2], []⟩
def impl_TakenRight.lps (k : Nat) : List (Nat × Lp impl_TakenRight.sg.Out) := []
theorem impl_TakenRight.loops (k : Nat) : LoopsOk impl_TakenRight.E k impl_TakenRight.hd (impl_TakenRight.lps k) (loopsOf (Go.Proofs.Tryz.f17.body.getD .skip)) := trivial
theorem impl_TakenRight.den (k : Nat) (x : Sig.In impl_TakenRight.sg.ps) : denFn impl_TakenRight.E k Go.Proofs.Tryz.f17 impl_TakenRight.sg impl_TakenRight.hd (runL k impl_TakenRight.hd (impl_TakenRight.lps k)) x = impl_TakenRight.F k x := by kernel_rfl
theorem impl_TakenRight.ok (k : Nat) : Contract Tryz.prog 17 impl_TakenRight.sg (impl_TakenRight.F k) := ok_of (E := impl_TakenRight.E) (tysOk _ _) (eqsOk _) ⟨impl_peerCode.ok k, impl_Pair_takenRight.ok k, trivial⟩ Tryz.func17 rfl (by kernel_rfl) (impl_TakenRight.loops k) (impl_TakenRight.den k)
def laws_FnExactTakenRight.sg : Sig := ⟨[.b kPair, .b (.int .i64)], [(.bool, .rd)]⟩
def laws_FnExactTakenRight.E : Env := ⟨tys, bys, [(7, ⟨laws_szPair.sg, laws_szPair.F⟩), (9, ⟨laws_toPair.sg, laws_toPair.F⟩), (11, ⟨laws_eqPair.sg, laws_eqPair.F⟩), (16, ⟨spec_TakenRight.sg, spec_TakenRight.F⟩), (17, ⟨impl_TakenRight.sg, impl_TakenRight.F⟩)], eqs⟩
def laws_FnExactTakenRight.F (k : Nat) (x : ((((Int × (Int × (Int × Unit))) × (Int × ((List ((Int × (Int × Unit)) × (Int × (Int × (Int × (Bool × (Int × (Int × Unit)))))))) × ((List ((Int × (Int × Unit)) × (Int × (Int × (Int × (Bool × (Int × (Int × Unit)))))))) × Unit)))) × ((List (Int × (Bool × (Int × (Int × ((List (Int × ((Int × (Int × ((List Int) × Unit))) × Unit))) × (Int × (Int × (Int × (Int × Unit)))))))))) × ((List (Int × ((List Int) × (Int × ((List Int) × Unit))))) × ((List (Int × (Int × (Int × (Int × (Int × (Bool × ((Int × ((Int × (Int × ((List Int) × Unit))) × Unit)) × Unit)))))))) × ((List (Int × ((Int × (Int × ((List Int) × Unit))) × Unit))) × Unit))))) × (Int × Unit))) : Option ((Bool × Unit) × Unit) :=
  (laws_szPair.F k (x.1, (1048576 : Int), ())).bind fun y0 =>
  bif (decide ((y0.1.1 < (0 : Int)))) then
  (some ((true, ()), ()))
  else (laws_toPair.F k (x.1, ())).bind fun y1 =>
    (spec_TakenRight.F k (y1.1.1, x.2)).bind fun y2 =>
    (laws_toPair.F k (x.1, ())).bind fun y3 =>
    (impl_TakenRight.F k (y3.1.1, x.2)).bind fun y4 =>
    bif (!(y4.1.1 == y2.1.1)) then
    (some ((false, ()), ()))
    else (laws_toPair.F k (x.1, ())).bind fun y5 =>
      (laws_eqPair.F k (y3.1.1, y5.1)).bind fun y6 =>
      bif (!y6.1.1) then
      (some ((false, ()), ()))
      else some ((true, ()), ())
def laws_FnExactTakenRight.hd : Hints := ⟨[], [], [4], [0, 1, 2, 5, 6, 7, 8], [(10, [0, 0, 2, 7, 15])]⟩
def laws_FnExactTakenRight.lps (k : Nat) : List (Nat × Lp laws_FnExactTakenRight.sg.Out) := []
theorem laws_FnExactTakenRight.loops (k : Nat) : LoopsOk laws_FnExactTakenRight.E k laws_FnExactTakenRight.hd (laws_FnExactTakenRight.lps k) (loopsOf (Go.Proofs.Tryz.f6.body.getD .skip)) := trivial
theorem laws_FnExactTakenRight.den (k : Nat) (x : Sig.In laws_FnExactTakenRight.sg.ps) : denFn laws_FnExactTakenRight.E k Go.Proofs.Tryz.f6 laws_FnExactTakenRight.sg laws_FnExactTakenRight.hd (runL k laws_FnExactTakenRight.hd (laws_FnExactTakenRight.lps k)) x = laws_FnExactTakenRight.F k x := by kernel_rfl
theorem laws_FnExactTakenRight.ok (k : Nat) : Contract Tryz.prog 6 laws_FnExactTakenRight.sg (laws_FnExactTakenRight.F k) := ok_of (E := laws_FnExactTakenRight.E) (tysOk _ _) (eqsOk _) ⟨laws_szPair.ok k, laws_toPair.ok k, laws_eqPair.ok k, spec_TakenRight.ok k, impl_TakenRight.ok k, trivial⟩ Tryz.func6 rfl (by kernel_rfl) (laws_FnExactTakenRight.loops k) (laws_FnExactTakenRight.den k)

end Go.Proofs.YtliaeahjdenlfaaGreat
set_option linter.unusedVariables false
set_option linter.unusedSimpArgs false
namespace Go.Proofs.YtliaeahjdenlfaaGreat
open Go Go.Dn
theorem laws_szByteS.tot (k : Nat) (x : List Int × Int × Unit) (hb : K.big (.sl (.int .u8)) x.1 ≤ 4294967296) (hk : K.big (.sl (.int .u8)) x.1 < k) (h0 : -1 ≤ x.2.1) (h1 : x.2.1 ≤ 4294967296) : ∃ c : Int, laws_szByteS.F k x = some ((c, ()), ()) ∧ -1 ≤ c ∧ c ≤ 4294967296 := by
  obtain ⟨x, l, _⟩ := x
  simp only at hb hk h0 h1
  have hl : x.length ≤ K.big (.sl (.int .u8)) x := big_len (e := (.int .u8)) x
  unfold laws_szByteS.F
  simp only [w64 (n := l - (x.length : Int)) (by omega) (by omega)]
  by_cases hc : l - (x.length : Int) < 0
  · exact ⟨-1, by simp [hc], by omega, by omega⟩
  · exact ⟨l - (x.length : Int), by simp [hc], by omega, by omega⟩
theorem laws_szWire.tot (k : Nat) (x : (Int × (List Int × (Int × (List Int × Unit)))) × Int × Unit) (hb : K.big kWire x.1 ≤ 4294967296) (hk : K.big kWire x.1 < k) (h0 : -1 ≤ x.2.1) (h1 : x.2.1 ≤ 4294967296) : ∃ c : Int, laws_szWire.F k x = some ((c, ()), ()) ∧ -1 ≤ c ∧ c ≤ 4294967296 := by
  obtain ⟨x, l, _⟩ := x
  simp only at hb hk h0 h1
  unfold laws_szWire.F
  obtain ⟨c0, e0, l0, u0⟩ := laws_szByteS.tot k (x.2.1, l, ()) (by (try simp only [bigp, bigi, bigb, bigu, bigs, kerrorAddressString, kPrefix, kConfig, kboundsError, kEvent, kWire, kAttrs, kEntry, kRule, kWireResult, kSettings, kNode, kMail, kPair] at *); omega) (by (try simp only [bigp, bigi, bigb, bigu, bigs, kerrorAddressString, kPrefix, kConfig, kboundsError, kEvent, kWire, kAttrs, kEntry, kRule, kWireResult, kSettings, kNode, kMail, kPair] at *); omega) (by simp only; omega) (by simp only; omega)
  simp only [e0, Option.bind_some]
  by_cases g0 : c0 < 0
  · exact ⟨-1, by simp [g0], by omega, by omega⟩
  simp only [decide_eq_false g0, cond_false]
  obtain ⟨c1, e1, l1, u1⟩ := laws_szByteS.tot k (x.2.2.2.1, c0, ()) (by (try simp only [bigp, bigi, bigb, bigu, bigs, kerrorAddressString, kPrefix, kConfig, kboundsError, kEvent, kWire, kAttrs, kEntry, kRule, kWireResult, kSettings, kNode, kMail, kPair] at *); omega) (by (try simp only [bigp, bigi, bigb, bigu, bigs, kerrorAddressString, kPrefix, kConfig, kboundsError, kEvent, kWire, kAttrs, kEntry, kRule, kWireResult, kSettings, kNode, kMail, kPair] at *); omega) (by simp only; omega) (by simp only; omega)
  simp only [e1, Option.bind_some]
  by_cases g1 : c1 < 0
  · exact ⟨-1, by simp [g1], by omega, by omega⟩
  simp only [decide_eq_false g1, cond_false]
  exact ⟨c1, rfl, by omega, by omega⟩
theorem laws_szWireS.tot (k : Nat) (x : List (Int × (List Int × (Int × (List Int × Unit)))) × Int × Unit) (hb : K.big (.sl kWire) x.1 ≤ 4294967296) (hk : K.big (.sl kWire) x.1 < k) (h0 : -1 ≤ x.2.1) (h1 : x.2.1 ≤ 4294967296) : ∃ c : Int, laws_szWireS.F k x = some ((c, ()), ()) ∧ -1 ≤ c ∧ c ≤ 4294967296 := by
  obtain ⟨x, l, _⟩ := x
  simp only at hb hk h0 h1
  have hl : x.length ≤ K.big (.sl kWire) x := big_len (e := kWire) x
  unfold laws_szWireS.F
  simp only [w64 (n := l - (x.length : Int)) (by omega) (by omega)]
  by_cases hc : l - (x.length : Int) < 0
  · exact ⟨-1, by simp [hc], by omega, by omega⟩
  · rw [decide_eq_false hc, cond_false]
    have key : ∀ (d n : Nat) (s : Int) (i : Nat), x.length - i = d → d < n → i ≤ x.length → 0 ≤ s → s ≤ 4294967296 → ∃ c : Int, laws_szWireS.l5 (ρ := (Int × Unit) × Unit) k (fun e => some (e, ())) (fun e => some (e, ())) n x s (i : Int) = some ((c, ()), ()) ∧ -1 ≤ c ∧ c ≤ 4294967296 := by
      intro d
      induction d with
      | zero =>
        intro n s i hd hn hi h0 h1
        obtain ⟨n, rfl⟩ : ∃ m, n = m + 1 := ⟨n - 1, by omega⟩
        obtain rfl : i = x.length := by omega
        exact ⟨s, by simp only [laws_szWireS.l5, lt_dec_f, cond_false], by omega, h1⟩
      | succ d ih =>
        intro n s i hd hn hi h0 h1
        obtain ⟨n, rfl⟩ : ∃ m, n = m + 1 := ⟨n - 1, by omega⟩
        have hi' : i < x.length := by omega
        have hm : K.big kWire x[i] + 1 ≤ K.big (.sl kWire) x := big_mem (e := kWire) (l := x) (List.getElem_mem hi')
        obtain ⟨c, e1, l1, u1⟩ := laws_szWire.tot k (x[i], s, ()) (by simp only; omega) (by simp only; omega) (by simp only; omega) (by simp only; omega)
        by_cases g : c < 0
        · exact ⟨-1, by simp only [laws_szWireS.l5, lt_dec hi', inBn hi', cond_true, share_eq, getD_get _ hi', e1, Option.bind_some, decide_eq_true g], by omega, by omega⟩
        · obtain ⟨c2, e2, l2, u2⟩ := ih n c (i + 1) (by omega) (by omega) (by omega) (by omega) u1
          refine ⟨c2, ?_, l2, u2⟩
          simp only [laws_szWireS.l5, lt_dec hi', inBn hi', cond_true, share_eq, getD_get _ hi', e1, Option.bind_some, decide_eq_false g, cond_false]
          rw [next_i (by omega)]
          exact e2
    exact key x.length k _ 0 rfl (by omega) (Nat.zero_le _) (by omega) (by omega)
theorem laws_szEvent.tot (k : Nat) (x : (Int × (Int × (List Int × Unit))) × Int × Unit) (hb : K.big kEvent x.1 ≤ 4294967296) (hk : K.big kEvent x.1 < k) (h0 : -1 ≤ x.2.1) (h1 : x.2.1 ≤ 4294967296) : ∃ c : Int, laws_szEvent.F k x = some ((c, ()), ()) ∧ -1 ≤ c ∧ c ≤ 4294967296 := by
  obtain ⟨x, l, _⟩ := x
  simp only at hb hk h0 h1
  unfold laws_szEvent.F
  obtain ⟨c0, e0, l0, u0⟩ := laws_szByteS.tot k (x.2.2.1, l, ()) (by (try simp only [bigp, bigi, bigb, bigu, bigs, kerrorAddressString, kPrefix, kConfig, kboundsError, kEvent, kWire, kAttrs, kEntry, kRule, kWireResult, kSettings, kNode, kMail, kPair] at *); omega) (by (try simp only [bigp, bigi, bigb, bigu, bigs, kerrorAddressString, kPrefix, kConfig, kboundsError, kEvent, kWire, kAttrs, kEntry, kRule, kWireResult, kSettings, kNode, kMail, kPair] at *); omega) (by simp only; omega) (by simp only; omega)
  simp only [e0, Option.bind_some]
  by_cases g0 : c0 < 0
  · exact ⟨-1, by simp [g0], by omega, by omega⟩
  simp only [decide_eq_false g0, cond_false]
  exact ⟨c0, rfl, by omega, by omega⟩
theorem laws_szEntry.tot (k : Nat) (x : (Int × ((Int × (Int × (List Int × Unit))) × Unit)) × Int × Unit) (hb : K.big kEntry x.1 ≤ 4294967296) (hk : K.big kEntry x.1 < k) (h0 : -1 ≤ x.2.1) (h1 : x.2.1 ≤ 4294967296) : ∃ c : Int, laws_szEntry.F k x = some ((c, ()), ()) ∧ -1 ≤ c ∧ c ≤ 4294967296 := by
  obtain ⟨x, l, _⟩ := x
  simp only at hb hk h0 h1
  unfold laws_szEntry.F
  obtain ⟨c0, e0, l0, u0⟩ := laws_szEvent.tot k (x.2.1, l, ()) (by (try simp only [bigp, bigi, bigb, bigu, bigs, kerrorAddressString, kPrefix, kConfig, kboundsError, kEvent, kWire, kAttrs, kEntry, kRule, kWireResult, kSettings, kNode, kMail, kPair] at *); omega) (by (try simp only [bigp, bigi, bigb, bigu, bigs, kerrorAddressString, kPrefix, kConfig, kboundsError, kEvent, kWire, kAttrs, kEntry, kRule, kWireResult, kSettings, kNode, kMail, kPair] at *); omega) (by simp only; omega) (by simp only; omega)
  simp only [e0, Option.bind_some]
  by_cases g0 : c0 < 0
  · exact ⟨-1, by simp [g0], by omega, by omega⟩
  simp only [decide_eq_false g0, cond_false]
  exact ⟨c0, rfl, by omega, by omega⟩
theorem laws_szEntryS.tot (k : Nat) (x : List (Int × ((Int × (Int × (List Int × Unit))) × Unit)) × Int × Unit) (hb : K.big (.sl kEntry) x.1 ≤ 4294967296) (hk : K.big (.sl kEntry) x.1 < k) (h0 : -1 ≤ x.2.1) (h1 : x.2.1 ≤ 4294967296) : ∃ c : Int, laws_szEntryS.F k x = some ((c, ()), ()) ∧ -1 ≤ c ∧ c ≤ 4294967296 := by
  obtain ⟨x, l, _⟩ := x
  simp only at hb hk h0 h1
  have hl : x.length ≤ K.big (.sl kEntry) x := big_len (e := kEntry) x
  unfold laws_szEntryS.F
  simp only [w64 (n := l - (x.length : Int)) (by omega) (by omega)]
  by_cases hc : l - (x.length : Int) < 0
  · exact ⟨-1, by simp [hc], by omega, by omega⟩
  · rw [decide_eq_false hc, cond_false]
    have key : ∀ (d n : Nat) (s : Int) (i : Nat), x.length - i = d → d < n → i ≤ x.length → 0 ≤ s → s ≤ 4294967296 → ∃ c : Int, laws_szEntryS.l5 (ρ := (Int × Unit) × Unit) k (fun e => some (e, ())) (fun e => some (e, ())) n x s (i : Int) = some ((c, ()), ()) ∧ -1 ≤ c ∧ c ≤ 4294967296 := by
      intro d
      induction d with
      | zero =>
        intro n s i hd hn hi h0 h1
        obtain ⟨n, rfl⟩ : ∃ m, n = m + 1 := ⟨n - 1, by omega⟩
        obtain rfl : i = x.length := by omega
        exact ⟨s, by simp only [laws_szEntryS.l5, lt_dec_f, cond_false], by omega, h1⟩
      | succ d ih =>
        intro n s i hd hn hi h0 h1
        obtain ⟨n, rfl⟩ : ∃ m, n = m + 1 := ⟨n - 1, by omega⟩
        have hi' : i < x.length := by omega
        have hm : K.big kEntry x[i] + 1 ≤ K.big (.sl kEntry) x := big_mem (e := kEntry) (l := x) (List.getElem_mem hi')
        obtain ⟨c, e1, l1, u1⟩ := laws_szEntry.tot k (x[i], s, ()) (by simp only; omega) (by simp only; omega) (by simp only; omega) (by simp only; omega)
        by_cases g : c < 0
        · exact ⟨-1, by simp only [laws_szEntryS.l5, lt_dec hi', inBn hi', cond_true, share_eq, getD_get _ hi', e1, Option.bind_some, decide_eq_true g], by omega, by omega⟩
        · obtain ⟨c2, e2, l2, u2⟩ := ih n c (i + 1) (by omega) (by omega) (by omega) (by omega) u1
          refine ⟨c2, ?_, l2, u2⟩
          simp only [laws_szEntryS.l5, lt_dec hi', inBn hi', cond_true, share_eq, getD_get _ hi', e1, Option.bind_some, decide_eq_false g, cond_false]
          rw [next_i (by omega)]
          exact e2
    exact key x.length k _ 0 rfl (by omega) (Nat.zero_le _) (by omega) (by omega)
theorem laws_szNode.tot (k : Nat) (x : (Int × (Bool × (Int × (Int × (List (Int × ((Int × (Int × (List Int × Unit))) × Unit)) × (Int × (Int × (Int × (Int × Unit))))))))) × Int × Unit) (hb : K.big kNode x.1 ≤ 4294967296) (hk : K.big kNode x.1 < k) (h0 : -1 ≤ x.2.1) (h1 : x.2.1 ≤ 4294967296) : ∃ c : Int, laws_szNode.F k x = some ((c, ()), ()) ∧ -1 ≤ c ∧ c ≤ 4294967296 := by
  obtain ⟨x, l, _⟩ := x
  simp only at hb hk h0 h1
  unfold laws_szNode.F
  obtain ⟨c0, e0, l0, u0⟩ := laws_szEntryS.tot k (x.2.2.2.2.1, l, ()) (by (try simp only [bigp, bigi, bigb, bigu, bigs, kerrorAddressString, kPrefix, kConfig, kboundsError, kEvent, kWire, kAttrs, kEntry, kRule, kWireResult, kSettings, kNode, kMail, kPair] at *); omega) (by (try simp only [bigp, bigi, bigb, bigu, bigs, kerrorAddressString, kPrefix, kConfig, kboundsError, kEvent, kWire, kAttrs, kEntry, kRule, kWireResult, kSettings, kNode, kMail, kPair] at *); omega) (by simp only; omega) (by simp only; omega)
  simp only [e0, Option.bind_some]
  by_cases g0 : c0 < 0
  · exact ⟨-1, by simp [g0], by omega, by omega⟩
  simp only [decide_eq_false g0, cond_false]
  exact ⟨c0, rfl, by omega, by omega⟩
theorem laws_szNodeS.tot (k : Nat) (x : List (Int × (Bool × (Int × (Int × (List (Int × ((Int × (Int × (List Int × Unit))) × Unit)) × (Int × (Int × (Int × (Int × Unit))))))))) × Int × Unit) (hb : K.big (.sl kNode) x.1 ≤ 4294967296) (hk : K.big (.sl kNode) x.1 < k) (h0 : -1 ≤ x.2.1) (h1 : x.2.1 ≤ 4294967296) : ∃ c : Int, laws_szNodeS.F k x = some ((c, ()), ()) ∧ -1 ≤ c ∧ c ≤ 4294967296 := by
  obtain ⟨x, l, _⟩ := x
  simp only at hb hk h0 h1
  have hl : x.length ≤ K.big (.sl kNode) x := big_len (e := kNode) x
  unfold laws_szNodeS.F
  simp only [w64 (n := l - (x.length : Int)) (by omega) (by omega)]
  by_cases hc : l - (x.length : Int) < 0
  · exact ⟨-1, by simp [hc], by omega, by omega⟩
  · rw [decide_eq_false hc, cond_false]
    have key : ∀ (d n : Nat) (s : Int) (i : Nat), x.length - i = d → d < n → i ≤ x.length → 0 ≤ s → s ≤ 4294967296 → ∃ c : Int, laws_szNodeS.l5 (ρ := (Int × Unit) × Unit) k (fun e => some (e, ())) (fun e => some (e, ())) n x s (i : Int) = some ((c, ()), ()) ∧ -1 ≤ c ∧ c ≤ 4294967296 := by
      intro d
      induction d with
      | zero =>
        intro n s i hd hn hi h0 h1
        obtain ⟨n, rfl⟩ : ∃ m, n = m + 1 := ⟨n - 1, by omega⟩
        obtain rfl : i = x.length := by omega
        exact ⟨s, by simp only [laws_szNodeS.l5, lt_dec_f, cond_false], by omega, h1⟩
      | succ d ih =>
        intro n s i hd hn hi h0 h1
        obtain ⟨n, rfl⟩ : ∃ m, n = m + 1 := ⟨n - 1, by omega⟩
        have hi' : i < x.length := by omega
        have hm : K.big kNode x[i] + 1 ≤ K.big (.sl kNode) x := big_mem (e := kNode) (l := x) (List.getElem_mem hi')
        obtain ⟨c, e1, l1, u1⟩ := laws_szNode.tot k (x[i], s, ()) (by simp only; omega) (by simp only; omega) (by simp only; omega) (by simp only; omega)
        by_cases g : c < 0
        · exact ⟨-1, by simp only [laws_szNodeS.l5, lt_dec hi', inBn hi', cond_true, share_eq, getD_get _ hi', e1, Option.bind_some, decide_eq_true g], by omega, by omega⟩
        · obtain ⟨c2, e2, l2, u2⟩ := ih n c (i + 1) (by omega) (by omega) (by omega) (by omega) u1
          refine ⟨c2, ?_, l2, u2⟩
          simp only [laws_szNodeS.l5, lt_dec hi', inBn hi', cond_true, share_eq, getD_get _ hi', e1, Option.bind_some, decide_eq_false g, cond_false]
          rw [next_i (by omega)]
          exact e2
    exact key x.length k _ 0 rfl (by omega) (Nat.zero_le _) (by omega) (by omega)
theorem laws_szMail.tot (k : Nat) (x : (Int × (Int × (Int × (Int × (Int × (Bool × ((Int × ((Int × (Int × (List Int × Unit))) × Unit)) × Unit))))))) × Int × Unit) (hb : K.big kMail x.1 ≤ 4294967296) (hk : K.big kMail x.1 < k) (h0 : -1 ≤ x.2.1) (h1 : x.2.1 ≤ 4294967296) : ∃ c : Int, laws_szMail.F k x = some ((c, ()), ()) ∧ -1 ≤ c ∧ c ≤ 4294967296 := by
  obtain ⟨x, l, _⟩ := x
  simp only at hb hk h0 h1
  unfold laws_szMail.F
  obtain ⟨c0, e0, l0, u0⟩ := laws_szEntry.tot k (x.2.2.2.2.2.2.1, l, ()) (by (try simp only [bigp, bigi, bigb, bigu, bigs, kerrorAddressString, kPrefix, kConfig, kboundsError, kEvent, kWire, kAttrs, kEntry, kRule, kWireResult, kSettings, kNode, kMail, kPair] at *); omega) (by (try simp only [bigp, bigi, bigb, bigu, bigs, kerrorAddressString, kPrefix, kConfig, kboundsError, kEvent, kWire, kAttrs, kEntry, kRule, kWireResult, kSettings, kNode, kMail, kPair] at *); omega) (by simp only; omega) (by simp only; omega)
  simp only [e0, Option.bind_some]
  by_cases g0 : c0 < 0
  · exact ⟨-1, by simp [g0], by omega, by omega⟩
  simp only [decide_eq_false g0, cond_false]
  exact ⟨c0, rfl, by omega, by omega⟩
theorem laws_szMailS.tot (k : Nat) (x : List (Int × (Int × (Int × (Int × (Int × (Bool × ((Int × ((Int × (Int × (List Int × Unit))) × Unit)) × Unit))))))) × Int × Unit) (hb : K.big (.sl kMail) x.1 ≤ 4294967296) (hk : K.big (.sl kMail) x.1 < k) (h0 : -1 ≤ x.2.1) (h1 : x.2.1 ≤ 4294967296) : ∃ c : Int, laws_szMailS.F k x = some ((c, ()), ()) ∧ -1 ≤ c ∧ c ≤ 4294967296 := by
  obtain ⟨x, l, _⟩ := x
  simp only at hb hk h0 h1
  have hl : x.length ≤ K.big (.sl kMail) x := big_len (e := kMail) x
  unfold laws_szMailS.F
  simp only [w64 (n := l - (x.length : Int)) (by omega) (by omega)]
  by_cases hc : l - (x.length : Int) < 0
  · exact ⟨-1, by simp [hc], by omega, by omega⟩
  · rw [decide_eq_false hc, cond_false]
    have key : ∀ (d n : Nat) (s : Int) (i : Nat), x.length - i = d → d < n → i ≤ x.length → 0 ≤ s → s ≤ 4294967296 → ∃ c : Int, laws_szMailS.l5 (ρ := (Int × Unit) × Unit) k (fun e => some (e, ())) (fun e => some (e, ())) n x s (i : Int) = some ((c, ()), ()) ∧ -1 ≤ c ∧ c ≤ 4294967296 := by
      intro d
      induction d with
      | zero =>
        intro n s i hd hn hi h0 h1
        obtain ⟨n, rfl⟩ : ∃ m, n = m + 1 := ⟨n - 1, by omega⟩
        obtain rfl : i = x.length := by omega
        exact ⟨s, by simp only [laws_szMailS.l5, lt_dec_f, cond_false], by omega, h1⟩
      | succ d ih =>
        intro n s i hd hn hi h0 h1
        obtain ⟨n, rfl⟩ : ∃ m, n = m + 1 := ⟨n - 1, by omega⟩
        have hi' : i < x.length := by omega
        have hm : K.big kMail x[i] + 1 ≤ K.big (.sl kMail) x := big_mem (e := kMail) (l := x) (List.getElem_mem hi')
        obtain ⟨c, e1, l1, u1⟩ := laws_szMail.tot k (x[i], s, ()) (by simp only; omega) (by simp only; omega) (by simp only; omega) (by simp only; omega)
        by_cases g : c < 0
        · exact ⟨-1, by simp only [laws_szMailS.l5, lt_dec hi', inBn hi', cond_true, share_eq, getD_get _ hi', e1, Option.bind_some, decide_eq_true g], by omega, by omega⟩
        · obtain ⟨c2, e2, l2, u2⟩ := ih n c (i + 1) (by omega) (by omega) (by omega) (by omega) u1
          refine ⟨c2, ?_, l2, u2⟩
          simp only [laws_szMailS.l5, lt_dec hi', inBn hi', cond_true, share_eq, getD_get _ hi', e1, Option.bind_some, decide_eq_false g, cond_false]
          rw [next_i (by omega)]
          exact e2
    exact key x.length k _ 0 rfl (by omega) (Nat.zero_le _) (by omega) (by omega)
theorem laws_szRuleS.tot (k : Nat) (x : List ((Int × (Int × Unit)) × (Int × (Int × (Int × (Bool × (Int × (Int × Unit))))))) × Int × Unit) (hb : K.big (.sl kRule) x.1 ≤ 4294967296) (hk : K.big (.sl kRule) x.1 < k) (h0 : -1 ≤ x.2.1) (h1 : x.2.1 ≤ 4294967296) : ∃ c : Int, laws_szRuleS.F k x = some ((c, ()), ()) ∧ -1 ≤ c ∧ c ≤ 4294967296 := by
  obtain ⟨x, l, _⟩ := x
  simp only at hb hk h0 h1
  have hl : x.length ≤ K.big (.sl kRule) x := big_len (e := kRule) x
  unfold laws_szRuleS.F
  simp only [w64 (n := l - (x.length : Int)) (by omega) (by omega)]
  by_cases hc : l - (x.length : Int) < 0
  · exact ⟨-1, by simp [hc], by omega, by omega⟩
  · exact ⟨l - (x.length : Int), by simp [hc], by omega, by omega⟩
theorem laws_szSettings.tot (k : Nat) (x : ((Int × (Int × (Int × Unit))) × (Int × (List ((Int × (Int × Unit)) × (Int × (Int × (Int × (Bool × (Int × (Int × Unit))))))) × (List ((Int × (Int × Unit)) × (Int × (Int × (Int × (Bool × (Int × (Int × Unit))))))) × Unit)))) × Int × Unit) (hb : K.big kSettings x.1 ≤ 4294967296) (hk : K.big kSettings x.1 < k) (h0 : -1 ≤ x.2.1) (h1 : x.2.1 ≤ 4294967296) : ∃ c : Int, laws_szSettings.F k x = some ((c, ()), ()) ∧ -1 ≤ c ∧ c ≤ 4294967296 := by
  obtain ⟨x, l, _⟩ := x
  simp only at hb hk h0 h1
  unfold laws_szSettings.F
  obtain ⟨c0, e0, l0, u0⟩ := laws_szRuleS.tot k (x.2.2.1, l, ()) (by (try simp only [bigp, bigi, bigb, bigu, bigs, kerrorAddressString, kPrefix, kConfig, kboundsError, kEvent, kWire, kAttrs, kEntry, kRule, kWireResult, kSettings, kNode, kMail, kPair] at *); omega) (by (try simp only [bigp, bigi, bigb, bigu, bigs, kerrorAddressString, kPrefix, kConfig, kboundsError, kEvent, kWire, kAttrs, kEntry, kRule, kWireResult, kSettings, kNode, kMail, kPair] at *); omega) (by simp only; omega) (by simp only; omega)
  simp only [e0, Option.bind_some]
  by_cases g0 : c0 < 0
  · exact ⟨-1, by simp [g0], by omega, by omega⟩
  simp only [decide_eq_false g0, cond_false]
  obtain ⟨c1, e1, l1, u1⟩ := laws_szRuleS.tot k (x.2.2.2.1, c0, ()) (by (try simp only [bigp, bigi, bigb, bigu, bigs, kerrorAddressString, kPrefix, kConfig, kboundsError, kEvent, kWire, kAttrs, kEntry, kRule, kWireResult, kSettings, kNode, kMail, kPair] at *); omega) (by (try simp only [bigp, bigi, bigb, bigu, bigs, kerrorAddressString, kPrefix, kConfig, kboundsError, kEvent, kWire, kAttrs, kEntry, kRule, kWireResult, kSettings, kNode, kMail, kPair] at *); omega) (by simp only; omega) (by simp only; omega)
  simp only [e1, Option.bind_some]
  by_cases g1 : c1 < 0
  · exact ⟨-1, by simp [g1], by omega, by omega⟩
  simp only [decide_eq_false g1, cond_false]
  exact ⟨c1, rfl, by omega, by omega⟩
theorem laws_szPair.tot (k : Nat) (x : (((Int × (Int × (Int × Unit))) × (Int × (List ((Int × (Int × Unit)) × (Int × (Int × (Int × (Bool × (Int × (Int × Unit))))))) × (List ((Int × (Int × Unit)) × (Int × (Int × (Int × (Bool × (Int × (Int × Unit))))))) × Unit)))) × (List (Int × (Bool × (Int × (Int × (List (Int × ((Int × (Int × (List Int × Unit))) × Unit)) × (Int × (Int × (Int × (Int × Unit))))))))) × (List (Int × (List Int × (Int × (List Int × Unit)))) × (List (Int × (Int × (Int × (Int × (Int × (Bool × ((Int × ((Int × (Int × (List Int × Unit))) × Unit)) × Unit))))))) × (List (Int × ((Int × (Int × (List Int × Unit))) × Unit)) × Unit))))) × Int × Unit) (hb : K.big kPair x.1 ≤ 4294967296) (hk : K.big kPair x.1 < k) (h0 : -1 ≤ x.2.1) (h1 : x.2.1 ≤ 4294967296) : ∃ c : Int, laws_szPair.F k x = some ((c, ()), ()) ∧ -1 ≤ c ∧ c ≤ 4294967296 := by
  obtain ⟨x, l, _⟩ := x
  simp only at hb hk h0 h1
  unfold laws_szPair.F
  obtain ⟨c0, e0, l0, u0⟩ := laws_szSettings.tot k (x.1, l, ()) (by (try simp only [bigp, bigi, bigb, bigu, bigs, kerrorAddressString, kPrefix, kConfig, kboundsError, kEvent, kWire, kAttrs, kEntry, kRule, kWireResult, kSettings, kNode, kMail, kPair] at *); omega) (by (try simp only [bigp, bigi, bigb, bigu, bigs, kerrorAddressString, kPrefix, kConfig, kboundsError, kEvent, kWire, kAttrs, kEntry, kRule, kWireResult, kSettings, kNode, kMail, kPair] at *); omega) (by simp only; omega) (by simp only; omega)
  simp only [e0, Option.bind_some]
  by_cases g0 : c0 < 0
  · exact ⟨-1, by simp [g0], by omega, by omega⟩
  simp only [decide_eq_false g0, cond_false]
  obtain ⟨c1, e1, l1, u1⟩ := laws_szNodeS.tot k (x.2.1, c0, ()) (by (try simp only [bigp, bigi, bigb, bigu, bigs, kerrorAddressString, kPrefix, kConfig, kboundsError, kEvent, kWire, kAttrs, kEntry, kRule, kWireResult, kSettings, kNode, kMail, kPair] at *); omega) (by (try simp only [bigp, bigi, bigb, bigu, bigs, kerrorAddressString, kPrefix, kConfig, kboundsError, kEvent, kWire, kAttrs, kEntry, kRule, kWireResult, kSettings, kNode, kMail, kPair] at *); omega) (by simp only; omega) (by simp only; omega)
  simp only [e1, Option.bind_some]
  by_cases g1 : c1 < 0
  · exact ⟨-1, by simp [g1], by omega, by omega⟩
  simp only [decide_eq_false g1, cond_false]
  obtain ⟨c2, e2, l2, u2⟩ := laws_szWireS.tot k (x.2.2.1, c1, ()) (by (try simp only [bigp, bigi, bigb, bigu, bigs, kerrorAddressString, kPrefix, kConfig, kboundsError, kEvent, kWire, kAttrs, kEntry, kRule, kWireResult, kSettings, kNode, kMail, kPair] at *); omega) (by (try simp only [bigp, bigi, bigb, bigu, bigs, kerrorAddressString, kPrefix, kConfig, kboundsError, kEvent, kWire, kAttrs, kEntry, kRule, kWireResult, kSettings, kNode, kMail, kPair] at *); omega) (by simp only; omega) (by simp only; omega)
  simp only [e2, Option.bind_some]
  by_cases g2 : c2 < 0
  · exact ⟨-1, by simp [g2], by omega, by omega⟩
  simp only [decide_eq_false g2, cond_false]
  obtain ⟨c3, e3, l3, u3⟩ := laws_szMailS.tot k (x.2.2.2.1, c2, ()) (by (try simp only [bigp, bigi, bigb, bigu, bigs, kerrorAddressString, kPrefix, kConfig, kboundsError, kEvent, kWire, kAttrs, kEntry, kRule, kWireResult, kSettings, kNode, kMail, kPair] at *); omega) (by (try simp only [bigp, bigi, bigb, bigu, bigs, kerrorAddressString, kPrefix, kConfig, kboundsError, kEvent, kWire, kAttrs, kEntry, kRule, kWireResult, kSettings, kNode, kMail, kPair] at *); omega) (by simp only; omega) (by simp only; omega)
  simp only [e3, Option.bind_some]
  by_cases g3 : c3 < 0
  · exact ⟨-1, by simp [g3], by omega, by omega⟩
  simp only [decide_eq_false g3, cond_false]
  obtain ⟨c4, e4, l4, u4⟩ := laws_szEntryS.tot k (x.2.2.2.2.1, c3, ()) (by (try simp only [bigp, bigi, bigb, bigu, bigs, kerrorAddressString, kPrefix, kConfig, kboundsError, kEvent, kWire, kAttrs, kEntry, kRule, kWireResult, kSettings, kNode, kMail, kPair] at *); omega) (by (try simp only [bigp, bigi, bigb, bigu, bigs, kerrorAddressString, kPrefix, kConfig, kboundsError, kEvent, kWire, kAttrs, kEntry, kRule, kWireResult, kSettings, kNode, kMail, kPair] at *); omega) (by simp only; omega) (by simp only; omega)
  simp only [e4, Option.bind_some]
  by_cases g4 : c4 < 0
  · exact ⟨-1, by simp [g4], by omega, by omega⟩
  simp only [decide_eq_false g4, cond_false]
  exact ⟨c4, rfl, by omega, by omega⟩
theorem laws_toByteS.eq (k : Nat) (x : List Int × Unit) (hb : K.big (.sl (.int .u8)) x.1 ≤ 4294967296) (hk : K.big (.sl (.int .u8)) x.1 < k) : laws_toByteS.F k x = some ((x.1, ()), ()) := by
  obtain ⟨x, _⟩ := x
  simp only at hb hk ⊢
  have hl : x.length ≤ K.big (.sl (.int .u8)) x := big_len (e := (.int .u8)) x
  unfold laws_toByteS.F
  simp only [Int.le_refl, decide_true, cond_true, Int.toNat_natCast]
  rw [roomy_le 4294967296 (by omega) (by decide), cond_true]
  refine loop_inv (len := x.length) (fun n i s => laws_toByteS.l3 k _ n x i s) (fun i s => s.length = x.length ∧ ∀ j, j < i → s[j]? = x[j]?) _ ?_ ?_ k 0 _ (Nat.zero_le _) ⟨by simp, fun j h => by omega⟩ (by omega)
  · rintro n s ⟨h1, h2⟩
    simp only [laws_toByteS.l3, lt_dec_f, cond_false]
    rw [all_eq h1 h2]
  · rintro n i s hi ⟨h1, h2⟩
    have hm : K.big (.int .u8) x[i] + 1 ≤ K.big (.sl (.int .u8)) x := big_mem (e := (.int .u8)) (l := x) (List.getElem_mem hi)
    refine ⟨s.set i x[i], ?_, set_keep h1 hi h2 (by simp [hi])⟩
    simp only [laws_toByteS.l3, lt_dec hi, inBn hi, cond_true, share_eq, getD_get _ hi]
    simp only [Option.bind_some, h1, inBn hi, cond_true, Int.toNat_natCast]
    rw [next_i (by omega)]
theorem laws_toEvent.eq (k : Nat) (x : (Int × (Int × (List Int × Unit))) × Unit) (hb : K.big kEvent x.1 ≤ 4294967296) (hk : K.big kEvent x.1 < k) : laws_toEvent.F k x = some ((x.1, ()), ()) := by
  obtain ⟨x, _⟩ := x
  unfold laws_toEvent.F
  rw [laws_toByteS.eq k _ (by (try simp only [bigp, bigi, bigb, bigu, bigs, kerrorAddressString, kPrefix, kConfig, kboundsError, kEvent, kWire, kAttrs, kEntry, kRule, kWireResult, kSettings, kNode, kMail, kPair] at *); omega) (by (try simp only [bigp, bigi, bigb, bigu, bigs, kerrorAddressString, kPrefix, kConfig, kboundsError, kEvent, kWire, kAttrs, kEntry, kRule, kWireResult, kSettings, kNode, kMail, kPair] at *); omega)]
  simp only [Option.bind_some]
theorem laws_toEntry.eq (k : Nat) (x : (Int × ((Int × (Int × (List Int × Unit))) × Unit)) × Unit) (hb : K.big kEntry x.1 ≤ 4294967296) (hk : K.big kEntry x.1 < k) : laws_toEntry.F k x = some ((x.1, ()), ()) := by
  obtain ⟨x, _⟩ := x
  unfold laws_toEntry.F
  rw [laws_toEvent.eq k _ (by (try simp only [bigp, bigi, bigb, bigu, bigs, kerrorAddressString, kPrefix, kConfig, kboundsError, kEvent, kWire, kAttrs, kEntry, kRule, kWireResult, kSettings, kNode, kMail, kPair] at *); omega) (by (try simp only [bigp, bigi, bigb, bigu, bigs, kerrorAddressString, kPrefix, kConfig, kboundsError, kEvent, kWire, kAttrs, kEntry, kRule, kWireResult, kSettings, kNode, kMail, kPair] at *); omega)]
  simp only [Option.bind_some]
theorem laws_toMail.eq (k : Nat) (x : (Int × (Int × (Int × (Int × (Int × (Bool × ((Int × ((Int × (Int × (List Int × Unit))) × Unit)) × Unit))))))) × Unit) (hb : K.big kMail x.1 ≤ 4294967296) (hk : K.big kMail x.1 < k) : laws_toMail.F k x = some ((x.1, ()), ()) := by
  obtain ⟨x, _⟩ := x
  unfold laws_toMail.F
  rw [laws_toEntry.eq k _ (by (try simp only [bigp, bigi, bigb, bigu, bigs, kerrorAddressString, kPrefix, kConfig, kboundsError, kEvent, kWire, kAttrs, kEntry, kRule, kWireResult, kSettings, kNode, kMail, kPair] at *); omega) (by (try simp only [bigp, bigi, bigb, bigu, bigs, kerrorAddressString, kPrefix, kConfig, kboundsError, kEvent, kWire, kAttrs, kEntry, kRule, kWireResult, kSettings, kNode, kMail, kPair] at *); omega)]
  simp only [Option.bind_some]
theorem laws_toMailS.eq (k : Nat) (x : List (Int × (Int × (Int × (Int × (Int × (Bool × ((Int × ((Int × (Int × (List Int × Unit))) × Unit)) × Unit))))))) × Unit) (hb : K.big (.sl kMail) x.1 ≤ 4294967296) (hk : K.big (.sl kMail) x.1 < k) : laws_toMailS.F k x = some ((x.1, ()), ()) := by
  obtain ⟨x, _⟩ := x
  simp only at hb hk ⊢
  have hl : x.length ≤ K.big (.sl kMail) x := big_len (e := kMail) x
  unfold laws_toMailS.F
  simp only [Int.le_refl, decide_true, cond_true, Int.toNat_natCast]
  rw [roomy_le 4294967296 (by omega) (by decide), cond_true]
  refine loop_inv (len := x.length) (fun n i s => laws_toMailS.l3 k _ n x i s) (fun i s => s.length = x.length ∧ ∀ j, j < i → s[j]? = x[j]?) _ ?_ ?_ k 0 _ (Nat.zero_le _) ⟨by simp, fun j h => by omega⟩ (by omega)
  · rintro n s ⟨h1, h2⟩
    simp only [laws_toMailS.l3, lt_dec_f, cond_false]
    rw [all_eq h1 h2]
  · rintro n i s hi ⟨h1, h2⟩
    have hm : K.big kMail x[i] + 1 ≤ K.big (.sl kMail) x := big_mem (e := kMail) (l := x) (List.getElem_mem hi)
    refine ⟨s.set i x[i], ?_, set_keep h1 hi h2 (by simp [hi])⟩
    simp only [laws_toMailS.l3, lt_dec hi, inBn hi, cond_true, share_eq, getD_get _ hi]
    rw [laws_toMail.eq k _ (by simp only; omega) (by simp only; omega)]
    simp only [Option.bind_some, h1, inBn hi, cond_true, Int.toNat_natCast]
    rw [next_i (by omega)]
theorem laws_toEntryS.eq (k : Nat) (x : List (Int × ((Int × (Int × (List Int × Unit))) × Unit)) × Unit) (hb : K.big (.sl kEntry) x.1 ≤ 4294967296) (hk : K.big (.sl kEntry) x.1 < k) : laws_toEntryS.F k x = some ((x.1, ()), ()) := by
  obtain ⟨x, _⟩ := x
  simp only at hb hk ⊢
  have hl : x.length ≤ K.big (.sl kEntry) x := big_len (e := kEntry) x
  unfold laws_toEntryS.F
  simp only [Int.le_refl, decide_true, cond_true, Int.toNat_natCast]
  rw [roomy_le 4294967296 (by omega) (by decide), cond_true]
  refine loop_inv (len := x.length) (fun n i s => laws_toEntryS.l3 k _ n x i s) (fun i s => s.length = x.length ∧ ∀ j, j < i → s[j]? = x[j]?) _ ?_ ?_ k 0 _ (Nat.zero_le _) ⟨by simp, fun j h => by omega⟩ (by omega)
  · rintro n s ⟨h1, h2⟩
    simp only [laws_toEntryS.l3, lt_dec_f, cond_false]
    rw [all_eq h1 h2]
  · rintro n i s hi ⟨h1, h2⟩
    have hm : K.big kEntry x[i] + 1 ≤ K.big (.sl kEntry) x := big_mem (e := kEntry) (l := x) (List.getElem_mem hi)
    refine ⟨s.set i x[i], ?_, set_keep h1 hi h2 (by simp [hi])⟩
    simp only [laws_toEntryS.l3, lt_dec hi, inBn hi, cond_true, share_eq, getD_get _ hi]
    rw [laws_toEntry.eq k _ (by simp only; omega) (by simp only; omega)]
    simp only [Option.bind_some, h1, inBn hi, cond_true, Int.toNat_natCast]
    rw [next_i (by omega)]
theorem laws_toNode.eq (k : Nat) (x : (Int × (Bool × (Int × (Int × (List (Int × ((Int × (Int × (List Int × Unit))) × Unit)) × (Int × (Int × (Int × (Int × Unit))))))))) × Unit) (hb : K.big kNode x.1 ≤ 4294967296) (hk : K.big kNode x.1 < k) : laws_toNode.F k x = some ((x.1, ()), ()) := by
  obtain ⟨x, _⟩ := x
  unfold laws_toNode.F
  rw [laws_toEntryS.eq k _ (by (try simp only [bigp, bigi, bigb, bigu, bigs, kerrorAddressString, kPrefix, kConfig, kboundsError, kEvent, kWire, kAttrs, kEntry, kRule, kWireResult, kSettings, kNode, kMail, kPair] at *); omega) (by (try simp only [bigp, bigi, bigb, bigu, bigs, kerrorAddressString, kPrefix, kConfig, kboundsError, kEvent, kWire, kAttrs, kEntry, kRule, kWireResult, kSettings, kNode, kMail, kPair] at *); omega)]
  simp only [Option.bind_some]
theorem laws_toNodeS.eq (k : Nat) (x : List (Int × (Bool × (Int × (Int × (List (Int × ((Int × (Int × (List Int × Unit))) × Unit)) × (Int × (Int × (Int × (Int × Unit))))))))) × Unit) (hb : K.big (.sl kNode) x.1 ≤ 4294967296) (hk : K.big (.sl kNode) x.1 < k) : laws_toNodeS.F k x = some ((x.1, ()), ()) := by
  obtain ⟨x, _⟩ := x
  simp only at hb hk ⊢
  have hl : x.length ≤ K.big (.sl kNode) x := big_len (e := kNode) x
  unfold laws_toNodeS.F
  simp only [Int.le_refl, decide_true, cond_true, Int.toNat_natCast]
  rw [roomy_le 4294967296 (by omega) (by decide), cond_true]
  refine loop_inv (len := x.length) (fun n i s => laws_toNodeS.l3 k _ n x i s) (fun i s => s.length = x.length ∧ ∀ j, j < i → s[j]? = x[j]?) _ ?_ ?_ k 0 _ (Nat.zero_le _) ⟨by simp, fun j h => by omega⟩ (by omega)
  · rintro n s ⟨h1, h2⟩
    simp only [laws_toNodeS.l3, lt_dec_f, cond_false]
    rw [all_eq h1 h2]
  · rintro n i s hi ⟨h1, h2⟩
    have hm : K.big kNode x[i] + 1 ≤ K.big (.sl kNode) x := big_mem (e := kNode) (l := x) (List.getElem_mem hi)
    refine ⟨s.set i x[i], ?_, set_keep h1 hi h2 (by simp [hi])⟩
    simp only [laws_toNodeS.l3, lt_dec hi, inBn hi, cond_true, share_eq, getD_get _ hi]
    rw [laws_toNode.eq k _ (by simp only; omega) (by simp only; omega)]
    simp only [Option.bind_some, h1, inBn hi, cond_true, Int.toNat_natCast]
    rw [next_i (by omega)]
theorem laws_toWire.eq (k : Nat) (x : (Int × (List Int × (Int × (List Int × Unit)))) × Unit) (hb : K.big kWire x.1 ≤ 4294967296) (hk : K.big kWire x.1 < k) : laws_toWire.F k x = some ((x.1, ()), ()) := by
  obtain ⟨x, _⟩ := x
  unfold laws_toWire.F
  rw [laws_toByteS.eq k _ (by (try simp only [bigp, bigi, bigb, bigu, bigs, kerrorAddressString, kPrefix, kConfig, kboundsError, kEvent, kWire, kAttrs, kEntry, kRule, kWireResult, kSettings, kNode, kMail, kPair] at *); omega) (by (try simp only [bigp, bigi, bigb, bigu, bigs, kerrorAddressString, kPrefix, kConfig, kboundsError, kEvent, kWire, kAttrs, kEntry, kRule, kWireResult, kSettings, kNode, kMail, kPair] at *); omega)]
  simp only [Option.bind_some]
  rw [laws_toByteS.eq k _ (by (try simp only [bigp, bigi, bigb, bigu, bigs, kerrorAddressString, kPrefix, kConfig, kboundsError, kEvent, kWire, kAttrs, kEntry, kRule, kWireResult, kSettings, kNode, kMail, kPair] at *); omega) (by (try simp only [bigp, bigi, bigb, bigu, bigs, kerrorAddressString, kPrefix, kConfig, kboundsError, kEvent, kWire, kAttrs, kEntry, kRule, kWireResult, kSettings, kNode, kMail, kPair] at *); omega)]
  simp only [Option.bind_some]
theorem laws_toWireS.eq (k : Nat) (x : List (Int × (List Int × (Int × (List Int × Unit)))) × Unit) (hb : K.big (.sl kWire) x.1 ≤ 4294967296) (hk : K.big (.sl kWire) x.1 < k) : laws_toWireS.F k x = some ((x.1, ()), ()) := by
  obtain ⟨x, _⟩ := x
  simp only at hb hk ⊢
  have hl : x.length ≤ K.big (.sl kWire) x := big_len (e := kWire) x
  unfold laws_toWireS.F
  simp only [Int.le_refl, decide_true, cond_true, Int.toNat_natCast]
  rw [roomy_le 4294967296 (by omega) (by decide), cond_true]
  refine loop_inv (len := x.length) (fun n i s => laws_toWireS.l3 k _ n x i s) (fun i s => s.length = x.length ∧ ∀ j, j < i → s[j]? = x[j]?) _ ?_ ?_ k 0 _ (Nat.zero_le _) ⟨by simp, fun j h => by omega⟩ (by omega)
  · rintro n s ⟨h1, h2⟩
    simp only [laws_toWireS.l3, lt_dec_f, cond_false]
    rw [all_eq h1 h2]
  · rintro n i s hi ⟨h1, h2⟩
    have hm : K.big kWire x[i] + 1 ≤ K.big (.sl kWire) x := big_mem (e := kWire) (l := x) (List.getElem_mem hi)
    refine ⟨s.set i x[i], ?_, set_keep h1 hi h2 (by simp [hi])⟩
    simp only [laws_toWireS.l3, lt_dec hi, inBn hi, cond_true, share_eq, getD_get _ hi]
    rw [laws_toWire.eq k _ (by simp only; omega) (by simp only; omega)]
    simp only [Option.bind_some, h1, inBn hi, cond_true, Int.toNat_natCast]
    rw [next_i (by omega)]
theorem laws_toPrefix.eq (k : Nat) (x : (Int × (Int × Unit)) × Unit) (hb : K.big kPrefix x.1 ≤ 4294967296) (hk : K.big kPrefix x.1 < k) : laws_toPrefix.F k x = some ((x.1, ()), ()) := by
  obtain ⟨x, _⟩ := x
  unfold laws_toPrefix.F
  rfl
theorem laws_toRule.eq (k : Nat) (x : ((Int × (Int × Unit)) × (Int × (Int × (Int × (Bool × (Int × (Int × Unit))))))) × Unit) (hb : K.big kRule x.1 ≤ 4294967296) (hk : K.big kRule x.1 < k) : laws_toRule.F k x = some ((x.1, ()), ()) := by
  obtain ⟨x, _⟩ := x
  unfold laws_toRule.F
  rw [laws_toPrefix.eq k _ (by (try simp only [bigp, bigi, bigb, bigu, bigs, kerrorAddressString, kPrefix, kConfig, kboundsError, kEvent, kWire, kAttrs, kEntry, kRule, kWireResult, kSettings, kNode, kMail, kPair] at *); omega) (by (try simp only [bigp, bigi, bigb, bigu, bigs, kerrorAddressString, kPrefix, kConfig, kboundsError, kEvent, kWire, kAttrs, kEntry, kRule, kWireResult, kSettings, kNode, kMail, kPair] at *); omega)]
  simp only [Option.bind_some]
theorem laws_toRuleS.eq (k : Nat) (x : List ((Int × (Int × Unit)) × (Int × (Int × (Int × (Bool × (Int × (Int × Unit))))))) × Unit) (hb : K.big (.sl kRule) x.1 ≤ 4294967296) (hk : K.big (.sl kRule) x.1 < k) : laws_toRuleS.F k x = some ((x.1, ()), ()) := by
  obtain ⟨x, _⟩ := x
  simp only at hb hk ⊢
  have hl : x.length ≤ K.big (.sl kRule) x := big_len (e := kRule) x
  unfold laws_toRuleS.F
  simp only [Int.le_refl, decide_true, cond_true, Int.toNat_natCast]
  rw [roomy_le 4294967296 (by omega) (by decide), cond_true]
  refine loop_inv (len := x.length) (fun n i s => laws_toRuleS.l3 k _ n x i s) (fun i s => s.length = x.length ∧ ∀ j, j < i → s[j]? = x[j]?) _ ?_ ?_ k 0 _ (Nat.zero_le _) ⟨by simp, fun j h => by omega⟩ (by omega)
  · rintro n s ⟨h1, h2⟩
    simp only [laws_toRuleS.l3, lt_dec_f, cond_false]
    rw [all_eq h1 h2]
  · rintro n i s hi ⟨h1, h2⟩
    have hm : K.big kRule x[i] + 1 ≤ K.big (.sl kRule) x := big_mem (e := kRule) (l := x) (List.getElem_mem hi)
    refine ⟨s.set i x[i], ?_, set_keep h1 hi h2 (by simp [hi])⟩
    simp only [laws_toRuleS.l3, lt_dec hi, inBn hi, cond_true, share_eq, getD_get _ hi]
    rw [laws_toRule.eq k _ (by simp only; omega) (by simp only; omega)]
    simp only [Option.bind_some, h1, inBn hi, cond_true, Int.toNat_natCast]
    rw [next_i (by omega)]
theorem laws_toConfig.eq (k : Nat) (x : (Int × (Int × (Int × Unit))) × Unit) (hb : K.big kConfig x.1 ≤ 4294967296) (hk : K.big kConfig x.1 < k) : laws_toConfig.F k x = some ((x.1, ()), ()) := by
  obtain ⟨x, _⟩ := x
  unfold laws_toConfig.F
  rfl
theorem laws_toSettings.eq (k : Nat) (x : ((Int × (Int × (Int × Unit))) × (Int × (List ((Int × (Int × Unit)) × (Int × (Int × (Int × (Bool × (Int × (Int × Unit))))))) × (List ((Int × (Int × Unit)) × (Int × (Int × (Int × (Bool × (Int × (Int × Unit))))))) × Unit)))) × Unit) (hb : K.big kSettings x.1 ≤ 4294967296) (hk : K.big kSettings x.1 < k) : laws_toSettings.F k x = some ((x.1, ()), ()) := by
  obtain ⟨x, _⟩ := x
  unfold laws_toSettings.F
  rw [laws_toConfig.eq k _ (by (try simp only [bigp, bigi, bigb, bigu, bigs, kerrorAddressString, kPrefix, kConfig, kboundsError, kEvent, kWire, kAttrs, kEntry, kRule, kWireResult, kSettings, kNode, kMail, kPair] at *); omega) (by (try simp only [bigp, bigi, bigb, bigu, bigs, kerrorAddressString, kPrefix, kConfig, kboundsError, kEvent, kWire, kAttrs, kEntry, kRule, kWireResult, kSettings, kNode, kMail, kPair] at *); omega)]
  simp only [Option.bind_some]
  rw [laws_toRuleS.eq k _ (by (try simp only [bigp, bigi, bigb, bigu, bigs, kerrorAddressString, kPrefix, kConfig, kboundsError, kEvent, kWire, kAttrs, kEntry, kRule, kWireResult, kSettings, kNode, kMail, kPair] at *); omega) (by (try simp only [bigp, bigi, bigb, bigu, bigs, kerrorAddressString, kPrefix, kConfig, kboundsError, kEvent, kWire, kAttrs, kEntry, kRule, kWireResult, kSettings, kNode, kMail, kPair] at *); omega)]
  simp only [Option.bind_some]
  rw [laws_toRuleS.eq k _ (by (try simp only [bigp, bigi, bigb, bigu, bigs, kerrorAddressString, kPrefix, kConfig, kboundsError, kEvent, kWire, kAttrs, kEntry, kRule, kWireResult, kSettings, kNode, kMail, kPair] at *); omega) (by (try simp only [bigp, bigi, bigb, bigu, bigs, kerrorAddressString, kPrefix, kConfig, kboundsError, kEvent, kWire, kAttrs, kEntry, kRule, kWireResult, kSettings, kNode, kMail, kPair] at *); omega)]
  simp only [Option.bind_some]
theorem laws_toPair.eq (k : Nat) (x : (((Int × (Int × (Int × Unit))) × (Int × (List ((Int × (Int × Unit)) × (Int × (Int × (Int × (Bool × (Int × (Int × Unit))))))) × (List ((Int × (Int × Unit)) × (Int × (Int × (Int × (Bool × (Int × (Int × Unit))))))) × Unit)))) × (List (Int × (Bool × (Int × (Int × (List (Int × ((Int × (Int × (List Int × Unit))) × Unit)) × (Int × (Int × (Int × (Int × Unit))))))))) × (List (Int × (List Int × (Int × (List Int × Unit)))) × (List (Int × (Int × (Int × (Int × (Int × (Bool × ((Int × ((Int × (Int × (List Int × Unit))) × Unit)) × Unit))))))) × (List (Int × ((Int × (Int × (List Int × Unit))) × Unit)) × Unit))))) × Unit) (hb : K.big kPair x.1 ≤ 4294967296) (hk : K.big kPair x.1 < k) : laws_toPair.F k x = some ((x.1, ()), ()) := by
  obtain ⟨x, _⟩ := x
  unfold laws_toPair.F
  rw [laws_toSettings.eq k _ (by (try simp only [bigp, bigi, bigb, bigu, bigs, kerrorAddressString, kPrefix, kConfig, kboundsError, kEvent, kWire, kAttrs, kEntry, kRule, kWireResult, kSettings, kNode, kMail, kPair] at *); omega) (by (try simp only [bigp, bigi, bigb, bigu, bigs, kerrorAddressString, kPrefix, kConfig, kboundsError, kEvent, kWire, kAttrs, kEntry, kRule, kWireResult, kSettings, kNode, kMail, kPair] at *); omega)]
  simp only [Option.bind_some]
  rw [laws_toNodeS.eq k _ (by (try simp only [bigp, bigi, bigb, bigu, bigs, kerrorAddressString, kPrefix, kConfig, kboundsError, kEvent, kWire, kAttrs, kEntry, kRule, kWireResult, kSettings, kNode, kMail, kPair] at *); omega) (by (try simp only [bigp, bigi, bigb, bigu, bigs, kerrorAddressString, kPrefix, kConfig, kboundsError, kEvent, kWire, kAttrs, kEntry, kRule, kWireResult, kSettings, kNode, kMail, kPair] at *); omega)]
  simp only [Option.bind_some]
  rw [laws_toWireS.eq k _ (by (try simp only [bigp, bigi, bigb, bigu, bigs, kerrorAddressString, kPrefix, kConfig, kboundsError, kEvent, kWire, kAttrs, kEntry, kRule, kWireResult, kSettings, kNode, kMail, kPair] at *); omega) (by (try simp only [bigp, bigi, bigb, bigu, bigs, kerrorAddressString, kPrefix, kConfig, kboundsError, kEvent, kWire, kAttrs, kEntry, kRule, kWireResult, kSettings, kNode, kMail, kPair] at *); omega)]
  simp only [Option.bind_some]
  rw [laws_toMailS.eq k _ (by (try simp only [bigp, bigi, bigb, bigu, bigs, kerrorAddressString, kPrefix, kConfig, kboundsError, kEvent, kWire, kAttrs, kEntry, kRule, kWireResult, kSettings, kNode, kMail, kPair] at *); omega) (by (try simp only [bigp, bigi, bigb, bigu, bigs, kerrorAddressString, kPrefix, kConfig, kboundsError, kEvent, kWire, kAttrs, kEntry, kRule, kWireResult, kSettings, kNode, kMail, kPair] at *); omega)]
  simp only [Option.bind_some]
  rw [laws_toEntryS.eq k _ (by (try simp only [bigp, bigi, bigb, bigu, bigs, kerrorAddressString, kPrefix, kConfig, kboundsError, kEvent, kWire, kAttrs, kEntry, kRule, kWireResult, kSettings, kNode, kMail, kPair] at *); omega) (by (try simp only [bigp, bigi, bigb, bigu, bigs, kerrorAddressString, kPrefix, kConfig, kboundsError, kEvent, kWire, kAttrs, kEntry, kRule, kWireResult, kSettings, kNode, kMail, kPair] at *); omega)]
  simp only [Option.bind_some]
theorem laws_eqByteS.refl (k : Nat) (x : List Int × List Int × Unit) (he : x.2.1 = x.1) (hb : K.big (.sl (.int .u8)) x.1 ≤ 4294967296) (hk : K.big (.sl (.int .u8)) x.1 < k) : laws_eqByteS.F k x = some ((true, ()), ()) := by
  obtain ⟨x, y, _⟩ := x
  simp only at he hb hk
  subst he
  have hl : y.length ≤ K.big (.sl (.int .u8)) y := big_len (e := (.int .u8)) y
  unfold laws_eqByteS.F
  simp only [bne_self_eq_false, cond_false]
  refine loop_inv (len := y.length) (fun n i (s : Unit) => laws_eqByteS.l4 k _ _ n y y i) (fun i s => True) _ ?_ ?_ k 0 () (Nat.zero_le _) trivial (by omega)
  · rintro n s -
    simp only [laws_eqByteS.l4, lt_dec_f, cond_false]
  · rintro n i s hi -
    have hm : K.big (.int .u8) y[i] + 1 ≤ K.big (.sl (.int .u8)) y := big_mem (e := (.int .u8)) (l := y) (List.getElem_mem hi)
    refine ⟨(), ?_, trivial⟩
    simp only [laws_eqByteS.l4, lt_dec hi, inBn hi, cond_true, share_eq, getD_get _ hi, bne_self_eq_false, cond_false]
    rw [next_i (by omega)]
theorem laws_eqEvent.refl (k : Nat) (x : (Int × (Int × (List Int × Unit))) × (Int × (Int × (List Int × Unit))) × Unit) (he : x.2.1 = x.1) (hb : K.big kEvent x.1 ≤ 4294967296) (hk : K.big kEvent x.1 < k) : laws_eqEvent.F k x = some ((true, ()), ()) := by
  obtain ⟨x, y, _⟩ := x
  simp only at he hb hk
  subst he
  unfold laws_eqEvent.F
  (try simp only [bne_self_eq_false, cond_false])
  rw [laws_eqByteS.refl k _ rfl (by (try simp only [bigp, bigi, bigb, bigu, bigs, kerrorAddressString, kPrefix, kConfig, kboundsError, kEvent, kWire, kAttrs, kEntry, kRule, kWireResult, kSettings, kNode, kMail, kPair] at *); omega) (by (try simp only [bigp, bigi, bigb, bigu, bigs, kerrorAddressString, kPrefix, kConfig, kboundsError, kEvent, kWire, kAttrs, kEntry, kRule, kWireResult, kSettings, kNode, kMail, kPair] at *); omega)]
  (try simp only [Option.bind_some, Bool.not_true, cond_false, bne_self_eq_false, BEq.rfl])
theorem laws_eqEntry.refl (k : Nat) (x : (Int × ((Int × (Int × (List Int × Unit))) × Unit)) × (Int × ((Int × (Int × (List Int × Unit))) × Unit)) × Unit) (he : x.2.1 = x.1) (hb : K.big kEntry x.1 ≤ 4294967296) (hk : K.big kEntry x.1 < k) : laws_eqEntry.F k x = some ((true, ()), ()) := by
  obtain ⟨x, y, _⟩ := x
  simp only at he hb hk
  subst he
  unfold laws_eqEntry.F
  (try simp only [bne_self_eq_false, cond_false])
  rw [laws_eqEvent.refl k _ rfl (by (try simp only [bigp, bigi, bigb, bigu, bigs, kerrorAddressString, kPrefix, kConfig, kboundsError, kEvent, kWire, kAttrs, kEntry, kRule, kWireResult, kSettings, kNode, kMail, kPair] at *); omega) (by (try simp only [bigp, bigi, bigb, bigu, bigs, kerrorAddressString, kPrefix, kConfig, kboundsError, kEvent, kWire, kAttrs, kEntry, kRule, kWireResult, kSettings, kNode, kMail, kPair] at *); omega)]
  (try simp only [Option.bind_some, Bool.not_true, cond_false, bne_self_eq_false, BEq.rfl])
theorem laws_eqEntryS.refl (k : Nat) (x : List (Int × ((Int × (Int × (List Int × Unit))) × Unit)) × List (Int × ((Int × (Int × (List Int × Unit))) × Unit)) × Unit) (he : x.2.1 = x.1) (hb : K.big (.sl kEntry) x.1 ≤ 4294967296) (hk : K.big (.sl kEntry) x.1 < k) : laws_eqEntryS.F k x = some ((true, ()), ()) := by
  obtain ⟨x, y, _⟩ := x
  simp only at he hb hk
  subst he
  have hl : y.length ≤ K.big (.sl kEntry) y := big_len (e := kEntry) y
  unfold laws_eqEntryS.F
  simp only [bne_self_eq_false, cond_false]
  refine loop_inv (len := y.length) (fun n i (s : Unit) => laws_eqEntryS.l4 k _ _ n y y i) (fun i s => True) _ ?_ ?_ k 0 () (Nat.zero_le _) trivial (by omega)
  · rintro n s -
    simp only [laws_eqEntryS.l4, lt_dec_f, cond_false]
  · rintro n i s hi -
    have hm : K.big kEntry y[i] + 1 ≤ K.big (.sl kEntry) y := big_mem (e := kEntry) (l := y) (List.getElem_mem hi)
    refine ⟨(), ?_, trivial⟩
    simp only [laws_eqEntryS.l4, lt_dec hi, inBn hi, cond_true, share_eq, getD_get _ hi, bne_self_eq_false, cond_false]
    rw [laws_eqEntry.refl k _ rfl (by simp only; omega) (by simp only; omega)]
    simp only [Option.bind_some, Bool.not_true, cond_false]
    rw [next_i (by omega)]
theorem laws_eqWire.refl (k : Nat) (x : (Int × (List Int × (Int × (List Int × Unit)))) × (Int × (List Int × (Int × (List Int × Unit)))) × Unit) (he : x.2.1 = x.1) (hb : K.big kWire x.1 ≤ 4294967296) (hk : K.big kWire x.1 < k) : laws_eqWire.F k x = some ((true, ()), ()) := by
  obtain ⟨x, y, _⟩ := x
  simp only at he hb hk
  subst he
  unfold laws_eqWire.F
  (try simp only [bne_self_eq_false, cond_false])
  rw [laws_eqByteS.refl k _ rfl (by (try simp only [bigp, bigi, bigb, bigu, bigs, kerrorAddressString, kPrefix, kConfig, kboundsError, kEvent, kWire, kAttrs, kEntry, kRule, kWireResult, kSettings, kNode, kMail, kPair] at *); omega) (by (try simp only [bigp, bigi, bigb, bigu, bigs, kerrorAddressString, kPrefix, kConfig, kboundsError, kEvent, kWire, kAttrs, kEntry, kRule, kWireResult, kSettings, kNode, kMail, kPair] at *); omega)]
  (try simp only [Option.bind_some, Bool.not_true, cond_false, bne_self_eq_false, BEq.rfl])
  rw [laws_eqByteS.refl k _ rfl (by (try simp only [bigp, bigi, bigb, bigu, bigs, kerrorAddressString, kPrefix, kConfig, kboundsError, kEvent, kWire, kAttrs, kEntry, kRule, kWireResult, kSettings, kNode, kMail, kPair] at *); omega) (by (try simp only [bigp, bigi, bigb, bigu, bigs, kerrorAddressString, kPrefix, kConfig, kboundsError, kEvent, kWire, kAttrs, kEntry, kRule, kWireResult, kSettings, kNode, kMail, kPair] at *); omega)]
  (try simp only [Option.bind_some, Bool.not_true, cond_false, bne_self_eq_false, BEq.rfl])
theorem laws_eqWireS.refl (k : Nat) (x : List (Int × (List Int × (Int × (List Int × Unit)))) × List (Int × (List Int × (Int × (List Int × Unit)))) × Unit) (he : x.2.1 = x.1) (hb : K.big (.sl kWire) x.1 ≤ 4294967296) (hk : K.big (.sl kWire) x.1 < k) : laws_eqWireS.F k x = some ((true, ()), ()) := by
  obtain ⟨x, y, _⟩ := x
  simp only at he hb hk
  subst he
  have hl : y.length ≤ K.big (.sl kWire) y := big_len (e := kWire) y
  unfold laws_eqWireS.F
  simp only [bne_self_eq_false, cond_false]
  refine loop_inv (len := y.length) (fun n i (s : Unit) => laws_eqWireS.l4 k _ _ n y y i) (fun i s => True) _ ?_ ?_ k 0 () (Nat.zero_le _) trivial (by omega)
  · rintro n s -
    simp only [laws_eqWireS.l4, lt_dec_f, cond_false]
  · rintro n i s hi -
    have hm : K.big kWire y[i] + 1 ≤ K.big (.sl kWire) y := big_mem (e := kWire) (l := y) (List.getElem_mem hi)
    refine ⟨(), ?_, trivial⟩
    simp only [laws_eqWireS.l4, lt_dec hi, inBn hi, cond_true, share_eq, getD_get _ hi, bne_self_eq_false, cond_false]
    rw [laws_eqWire.refl k _ rfl (by simp only; omega) (by simp only; omega)]
    simp only [Option.bind_some, Bool.not_true, cond_false]
    rw [next_i (by omega)]
theorem laws_eqNode.refl (k : Nat) (x : (Int × (Bool × (Int × (Int × (List (Int × ((Int × (Int × (List Int × Unit))) × Unit)) × (Int × (Int × (Int × (Int × Unit))))))))) × (Int × (Bool × (Int × (Int × (List (Int × ((Int × (Int × (List Int × Unit))) × Unit)) × (Int × (Int × (Int × (Int × Unit))))))))) × Unit) (he : x.2.1 = x.1) (hb : K.big kNode x.1 ≤ 4294967296) (hk : K.big kNode x.1 < k) : laws_eqNode.F k x = some ((true, ()), ()) := by
  obtain ⟨x, y, _⟩ := x
  simp only at he hb hk
  subst he
  unfold laws_eqNode.F
  (try simp only [bne_self_eq_false, cond_false])
  rw [laws_eqEntryS.refl k _ rfl (by (try simp only [bigp, bigi, bigb, bigu, bigs, kerrorAddressString, kPrefix, kConfig, kboundsError, kEvent, kWire, kAttrs, kEntry, kRule, kWireResult, kSettings, kNode, kMail, kPair] at *); omega) (by (try simp only [bigp, bigi, bigb, bigu, bigs, kerrorAddressString, kPrefix, kConfig, kboundsError, kEvent, kWire, kAttrs, kEntry, kRule, kWireResult, kSettings, kNode, kMail, kPair] at *); omega)]
  (try simp only [Option.bind_some, Bool.not_true, cond_false, bne_self_eq_false, BEq.rfl])
theorem laws_eqNodeS.refl (k : Nat) (x : List (Int × (Bool × (Int × (Int × (List (Int × ((Int × (Int × (List Int × Unit))) × Unit)) × (Int × (Int × (Int × (Int × Unit))))))))) × List (Int × (Bool × (Int × (Int × (List (Int × ((Int × (Int × (List Int × Unit))) × Unit)) × (Int × (Int × (Int × (Int × Unit))))))))) × Unit) (he : x.2.1 = x.1) (hb : K.big (.sl kNode) x.1 ≤ 4294967296) (hk : K.big (.sl kNode) x.1 < k) : laws_eqNodeS.F k x = some ((true, ()), ()) := by
  obtain ⟨x, y, _⟩ := x
  simp only at he hb hk
  subst he
  have hl : y.length ≤ K.big (.sl kNode) y := big_len (e := kNode) y
  unfold laws_eqNodeS.F
  simp only [bne_self_eq_false, cond_false]
  refine loop_inv (len := y.length) (fun n i (s : Unit) => laws_eqNodeS.l4 k _ _ n y y i) (fun i s => True) _ ?_ ?_ k 0 () (Nat.zero_le _) trivial (by omega)
  · rintro n s -
    simp only [laws_eqNodeS.l4, lt_dec_f, cond_false]
  · rintro n i s hi -
    have hm : K.big kNode y[i] + 1 ≤ K.big (.sl kNode) y := big_mem (e := kNode) (l := y) (List.getElem_mem hi)
    refine ⟨(), ?_, trivial⟩
    simp only [laws_eqNodeS.l4, lt_dec hi, inBn hi, cond_true, share_eq, getD_get _ hi, bne_self_eq_false, cond_false]
    rw [laws_eqNode.refl k _ rfl (by simp only; omega) (by simp only; omega)]
    simp only [Option.bind_some, Bool.not_true, cond_false]
    rw [next_i (by omega)]
theorem laws_eqMail.refl (k : Nat) (x : (Int × (Int × (Int × (Int × (Int × (Bool × ((Int × ((Int × (Int × (List Int × Unit))) × Unit)) × Unit))))))) × (Int × (Int × (Int × (Int × (Int × (Bool × ((Int × ((Int × (Int × (List Int × Unit))) × Unit)) × Unit))))))) × Unit) (he : x.2.1 = x.1) (hb : K.big kMail x.1 ≤ 4294967296) (hk : K.big kMail x.1 < k) : laws_eqMail.F k x = some ((true, ()), ()) := by
  obtain ⟨x, y, _⟩ := x
  simp only at he hb hk
  subst he
  unfold laws_eqMail.F
  (try simp only [bne_self_eq_false, cond_false])
  rw [laws_eqEntry.refl k _ rfl (by (try simp only [bigp, bigi, bigb, bigu, bigs, kerrorAddressString, kPrefix, kConfig, kboundsError, kEvent, kWire, kAttrs, kEntry, kRule, kWireResult, kSettings, kNode, kMail, kPair] at *); omega) (by (try simp only [bigp, bigi, bigb, bigu, bigs, kerrorAddressString, kPrefix, kConfig, kboundsError, kEvent, kWire, kAttrs, kEntry, kRule, kWireResult, kSettings, kNode, kMail, kPair] at *); omega)]
  (try simp only [Option.bind_some, Bool.not_true, cond_false, bne_self_eq_false, BEq.rfl])
theorem laws_eqMailS.refl (k : Nat) (x : List (Int × (Int × (Int × (Int × (Int × (Bool × ((Int × ((Int × (Int × (List Int × Unit))) × Unit)) × Unit))))))) × List (Int × (Int × (Int × (Int × (Int × (Bool × ((Int × ((Int × (Int × (List Int × Unit))) × Unit)) × Unit))))))) × Unit) (he : x.2.1 = x.1) (hb : K.big (.sl kMail) x.1 ≤ 4294967296) (hk : K.big (.sl kMail) x.1 < k) : laws_eqMailS.F k x = some ((true, ()), ()) := by
  obtain ⟨x, y, _⟩ := x
  simp only at he hb hk
  subst he
  have hl : y.length ≤ K.big (.sl kMail) y := big_len (e := kMail) y
  unfold laws_eqMailS.F
  simp only [bne_self_eq_false, cond_false]
  refine loop_inv (len := y.length) (fun n i (s : Unit) => laws_eqMailS.l4 k _ _ n y y i) (fun i s => True) _ ?_ ?_ k 0 () (Nat.zero_le _) trivial (by omega)
  · rintro n s -
    simp only [laws_eqMailS.l4, lt_dec_f, cond_false]
  · rintro n i s hi -
    have hm : K.big kMail y[i] + 1 ≤ K.big (.sl kMail) y := big_mem (e := kMail) (l := y) (List.getElem_mem hi)
    refine ⟨(), ?_, trivial⟩
    simp only [laws_eqMailS.l4, lt_dec hi, inBn hi, cond_true, share_eq, getD_get _ hi, bne_self_eq_false, cond_false]
    rw [laws_eqMail.refl k _ rfl (by simp only; omega) (by simp only; omega)]
    simp only [Option.bind_some, Bool.not_true, cond_false]
    rw [next_i (by omega)]
theorem laws_eqPrefix.refl (k : Nat) (x : (Int × (Int × Unit)) × (Int × (Int × Unit)) × Unit) (he : x.2.1 = x.1) (hb : K.big kPrefix x.1 ≤ 4294967296) (hk : K.big kPrefix x.1 < k) : laws_eqPrefix.F k x = some ((true, ()), ()) := by
  obtain ⟨x, y, _⟩ := x
  simp only at he hb hk
  subst he
  unfold laws_eqPrefix.F
  (try simp only [bne_self_eq_false, cond_false])
  (try rfl)
theorem laws_eqRule.refl (k : Nat) (x : ((Int × (Int × Unit)) × (Int × (Int × (Int × (Bool × (Int × (Int × Unit))))))) × ((Int × (Int × Unit)) × (Int × (Int × (Int × (Bool × (Int × (Int × Unit))))))) × Unit) (he : x.2.1 = x.1) (hb : K.big kRule x.1 ≤ 4294967296) (hk : K.big kRule x.1 < k) : laws_eqRule.F k x = some ((true, ()), ()) := by
  obtain ⟨x, y, _⟩ := x
  simp only at he hb hk
  subst he
  unfold laws_eqRule.F
  (try simp only [bne_self_eq_false, cond_false])
  rw [laws_eqPrefix.refl k _ rfl (by (try simp only [bigp, bigi, bigb, bigu, bigs, kerrorAddressString, kPrefix, kConfig, kboundsError, kEvent, kWire, kAttrs, kEntry, kRule, kWireResult, kSettings, kNode, kMail, kPair] at *); omega) (by (try simp only [bigp, bigi, bigb, bigu, bigs, kerrorAddressString, kPrefix, kConfig, kboundsError, kEvent, kWire, kAttrs, kEntry, kRule, kWireResult, kSettings, kNode, kMail, kPair] at *); omega)]
  (try simp only [Option.bind_some, Bool.not_true, cond_false, bne_self_eq_false, BEq.rfl])
theorem laws_eqRuleS.refl (k : Nat) (x : List ((Int × (Int × Unit)) × (Int × (Int × (Int × (Bool × (Int × (Int × Unit))))))) × List ((Int × (Int × Unit)) × (Int × (Int × (Int × (Bool × (Int × (Int × Unit))))))) × Unit) (he : x.2.1 = x.1) (hb : K.big (.sl kRule) x.1 ≤ 4294967296) (hk : K.big (.sl kRule) x.1 < k) : laws_eqRuleS.F k x = some ((true, ()), ()) := by
  obtain ⟨x, y, _⟩ := x
  simp only at he hb hk
  subst he
  have hl : y.length ≤ K.big (.sl kRule) y := big_len (e := kRule) y
  unfold laws_eqRuleS.F
  simp only [bne_self_eq_false, cond_false]
  refine loop_inv (len := y.length) (fun n i (s : Unit) => laws_eqRuleS.l4 k _ _ n y y i) (fun i s => True) _ ?_ ?_ k 0 () (Nat.zero_le _) trivial (by omega)
  · rintro n s -
    simp only [laws_eqRuleS.l4, lt_dec_f, cond_false]
  · rintro n i s hi -
    have hm : K.big kRule y[i] + 1 ≤ K.big (.sl kRule) y := big_mem (e := kRule) (l := y) (List.getElem_mem hi)
    refine ⟨(), ?_, trivial⟩
    simp only [laws_eqRuleS.l4, lt_dec hi, inBn hi, cond_true, share_eq, getD_get _ hi, bne_self_eq_false, cond_false]
    rw [laws_eqRule.refl k _ rfl (by simp only; omega) (by simp only; omega)]
    simp only [Option.bind_some, Bool.not_true, cond_false]
    rw [next_i (by omega)]
theorem laws_eqConfig.refl (k : Nat) (x : (Int × (Int × (Int × Unit))) × (Int × (Int × (Int × Unit))) × Unit) (he : x.2.1 = x.1) (hb : K.big kConfig x.1 ≤ 4294967296) (hk : K.big kConfig x.1 < k) : laws_eqConfig.F k x = some ((true, ()), ()) := by
  obtain ⟨x, y, _⟩ := x
  simp only at he hb hk
  subst he
  unfold laws_eqConfig.F
  (try simp only [bne_self_eq_false, cond_false])
  (try rfl)
theorem laws_eqSettings.refl (k : Nat) (x : ((Int × (Int × (Int × Unit))) × (Int × (List ((Int × (Int × Unit)) × (Int × (Int × (Int × (Bool × (Int × (Int × Unit))))))) × (List ((Int × (Int × Unit)) × (Int × (Int × (Int × (Bool × (Int × (Int × Unit))))))) × Unit)))) × ((Int × (Int × (Int × Unit))) × (Int × (List ((Int × (Int × Unit)) × (Int × (Int × (Int × (Bool × (Int × (Int × Unit))))))) × (List ((Int × (Int × Unit)) × (Int × (Int × (Int × (Bool × (Int × (Int × Unit))))))) × Unit)))) × Unit) (he : x.2.1 = x.1) (hb : K.big kSettings x.1 ≤ 4294967296) (hk : K.big kSettings x.1 < k) : laws_eqSettings.F k x = some ((true, ()), ()) := by
  obtain ⟨x, y, _⟩ := x
  simp only at he hb hk
  subst he
  unfold laws_eqSettings.F
  (try simp only [bne_self_eq_false, cond_false])
  rw [laws_eqConfig.refl k _ rfl (by (try simp only [bigp, bigi, bigb, bigu, bigs, kerrorAddressString, kPrefix, kConfig, kboundsError, kEvent, kWire, kAttrs, kEntry, kRule, kWireResult, kSettings, kNode, kMail, kPair] at *); omega) (by (try simp only [bigp, bigi, bigb, bigu, bigs, kerrorAddressString, kPrefix, kConfig, kboundsError, kEvent, kWire, kAttrs, kEntry, kRule, kWireResult, kSettings, kNode, kMail, kPair] at *); omega)]
  (try simp only [Option.bind_some, Bool.not_true, cond_false, bne_self_eq_false, BEq.rfl])
  rw [laws_eqRuleS.refl k _ rfl (by (try simp only [bigp, bigi, bigb, bigu, bigs, kerrorAddressString, kPrefix, kConfig, kboundsError, kEvent, kWire, kAttrs, kEntry, kRule, kWireResult, kSettings, kNode, kMail, kPair] at *); omega) (by (try simp only [bigp, bigi, bigb, bigu, bigs, kerrorAddressString, kPrefix, kConfig, kboundsError, kEvent, kWire, kAttrs, kEntry, kRule, kWireResult, kSettings, kNode, kMail, kPair] at *); omega)]
  (try simp only [Option.bind_some, Bool.not_true, cond_false, bne_self_eq_false, BEq.rfl])
  rw [laws_eqRuleS.refl k _ rfl (by (try simp only [bigp, bigi, bigb, bigu, bigs, kerrorAddressString, kPrefix, kConfig, kboundsError, kEvent, kWire, kAttrs, kEntry, kRule, kWireResult, kSettings, kNode, kMail, kPair] at *); omega) (by (try simp only [bigp, bigi, bigb, bigu, bigs, kerrorAddressString, kPrefix, kConfig, kboundsError, kEvent, kWire, kAttrs, kEntry, kRule, kWireResult, kSettings, kNode, kMail, kPair] at *); omega)]
  (try simp only [Option.bind_some, Bool.not_true, cond_false, bne_self_eq_false, BEq.rfl])
theorem laws_eqPair.refl (k : Nat) (x : (((Int × (Int × (Int × Unit))) × (Int × (List ((Int × (Int × Unit)) × (Int × (Int × (Int × (Bool × (Int × (Int × Unit))))))) × (List ((Int × (Int × Unit)) × (Int × (Int × (Int × (Bool × (Int × (Int × Unit))))))) × Unit)))) × (List (Int × (Bool × (Int × (Int × (List (Int × ((Int × (Int × (List Int × Unit))) × Unit)) × (Int × (Int × (Int × (Int × Unit))))))))) × (List (Int × (List Int × (Int × (List Int × Unit)))) × (List (Int × (Int × (Int × (Int × (Int × (Bool × ((Int × ((Int × (Int × (List Int × Unit))) × Unit)) × Unit))))))) × (List (Int × ((Int × (Int × (List Int × Unit))) × Unit)) × Unit))))) × (((Int × (Int × (Int × Unit))) × (Int × (List ((Int × (Int × Unit)) × (Int × (Int × (Int × (Bool × (Int × (Int × Unit))))))) × (List ((Int × (Int × Unit)) × (Int × (Int × (Int × (Bool × (Int × (Int × Unit))))))) × Unit)))) × (List (Int × (Bool × (Int × (Int × (List (Int × ((Int × (Int × (List Int × Unit))) × Unit)) × (Int × (Int × (Int × (Int × Unit))))))))) × (List (Int × (List Int × (Int × (List Int × Unit)))) × (List (Int × (Int × (Int × (Int × (Int × (Bool × ((Int × ((Int × (Int × (List Int × Unit))) × Unit)) × Unit))))))) × (List (Int × ((Int × (Int × (List Int × Unit))) × Unit)) × Unit))))) × Unit) (he : x.2.1 = x.1) (hb : K.big kPair x.1 ≤ 4294967296) (hk : K.big kPair x.1 < k) : laws_eqPair.F k x = some ((true, ()), ()) := by
  obtain ⟨x, y, _⟩ := x
  simp only at he hb hk
  subst he
  unfold laws_eqPair.F
  (try simp only [bne_self_eq_false, cond_false])
  rw [laws_eqSettings.refl k _ rfl (by (try simp only [bigp, bigi, bigb, bigu, bigs, kerrorAddressString, kPrefix, kConfig, kboundsError, kEvent, kWire, kAttrs, kEntry, kRule, kWireResult, kSettings, kNode, kMail, kPair] at *); omega) (by (try simp only [bigp, bigi, bigb, bigu, bigs, kerrorAddressString, kPrefix, kConfig, kboundsError, kEvent, kWire, kAttrs, kEntry, kRule, kWireResult, kSettings, kNode, kMail, kPair] at *); omega)]
  (try simp only [Option.bind_some, Bool.not_true, cond_false, bne_self_eq_false, BEq.rfl])
  rw [laws_eqNodeS.refl k _ rfl (by (try simp only [bigp, bigi, bigb, bigu, bigs, kerrorAddressString, kPrefix, kConfig, kboundsError, kEvent, kWire, kAttrs, kEntry, kRule, kWireResult, kSettings, kNode, kMail, kPair] at *); omega) (by (try simp only [bigp, bigi, bigb, bigu, bigs, kerrorAddressString, kPrefix, kConfig, kboundsError, kEvent, kWire, kAttrs, kEntry, kRule, kWireResult, kSettings, kNode, kMail, kPair] at *); omega)]
  (try simp only [Option.bind_some, Bool.not_true, cond_false, bne_self_eq_false, BEq.rfl])
  rw [laws_eqWireS.refl k _ rfl (by (try simp only [bigp, bigi, bigb, bigu, bigs, kerrorAddressString, kPrefix, kConfig, kboundsError, kEvent, kWire, kAttrs, kEntry, kRule, kWireResult, kSettings, kNode, kMail, kPair] at *); omega) (by (try simp only [bigp, bigi, bigb, bigu, bigs, kerrorAddressString, kPrefix, kConfig, kboundsError, kEvent, kWire, kAttrs, kEntry, kRule, kWireResult, kSettings, kNode, kMail, kPair] at *); omega)]
  (try simp only [Option.bind_some, Bool.not_true, cond_false, bne_self_eq_false, BEq.rfl])
  rw [laws_eqMailS.refl k _ rfl (by (try simp only [bigp, bigi, bigb, bigu, bigs, kerrorAddressString, kPrefix, kConfig, kboundsError, kEvent, kWire, kAttrs, kEntry, kRule, kWireResult, kSettings, kNode, kMail, kPair] at *); omega) (by (try simp only [bigp, bigi, bigb, bigu, bigs, kerrorAddressString, kPrefix, kConfig, kboundsError, kEvent, kWire, kAttrs, kEntry, kRule, kWireResult, kSettings, kNode, kMail, kPair] at *); omega)]
  (try simp only [Option.bind_some, Bool.not_true, cond_false, bne_self_eq_false, BEq.rfl])
  rw [laws_eqEntryS.refl k _ rfl (by (try simp only [bigp, bigi, bigb, bigu, bigs, kerrorAddressString, kPrefix, kConfig, kboundsError, kEvent, kWire, kAttrs, kEntry, kRule, kWireResult, kSettings, kNode, kMail, kPair] at *); omega) (by (try simp only [bigp, bigi, bigb, bigu, bigs, kerrorAddressString, kPrefix, kConfig, kboundsError, kEvent, kWire, kAttrs, kEntry, kRule, kWireResult, kSettings, kNode, kMail, kPair] at *); omega)]
  (try simp only [Option.bind_some, Bool.not_true, cond_false, bne_self_eq_false, BEq.rfl])
end Go.Proofs.YtliaeahjdenlfaaGreat
