/- FnExactPairFault: for every pair of bulk at most 1048576 the law returns true and its argument reads as before; no further condition. -/
import Derived.Test.YthnidahfdnnboaaProg
import Derived.KernelRfl
import Derived.Test.YthnidahfdnnboaaRows
import Derived.WalkKit
import Derived.ProofKit
import Derived.OpenShut
import Derived.JoinedCond
import Derived.Carry
import Derived.ChangeOld
import Derived.Test.YthnidahfdnnboaaPairFault0
import Derived.Test.YthnidahfdnnboaaPairFault1
import Derived.Test.YthnidahfdnnboaaPairFault2
set_option linter.unusedVariables false
set_option maxRecDepth 100000
namespace Go.Proofs.Ythnidahfdnnboaa
open Go Go.Dn

def laws_eqMailS.sg : Sig := ⟨[.b (.sl kMail), .b (.sl kMail)], [(.bool, .rd)]⟩
def laws_eqMailS.E : Env := ⟨tys, bys, [(36, ⟨laws_eqMail.sg, laws_eqMail.F⟩)], eqs⟩
def laws_eqMailS.l4 {ρ : Type} (k : Nat) (c0 : (Bool × Unit) → Option ρ) (c1 : Unit → Option ρ) : Nat → List (Int × (Int × (Int × (Int × (Int × (Bool × ((Int × ((Int × (Int × ((List Int) × Unit))) × Unit)) × Unit))))))) → List (Int × (Int × (Int × (Int × (Int × (Bool × ((Int × ((Int × (Int × ((List Int) × Unit))) × Unit)) × Unit))))))) → Int → Option ρ
  | 0 => fun _ _ _ => none
  | n + 1 => fun x0 x1 x2 => 
    bif (decide ((x2 < (((List.length x0) : Nat) : Int)))) then
    (bif (Go.Dn.inB x2 (((List.length x0) : Nat) : Int)) then
      (Go.Dn.share (List.getD x0 (Int.toNat x2) ((0 : Int), ((0 : Int), ((0 : Int), ((0 : Int), ((0 : Int), (false, (((0 : Int), (((0 : Int), ((0 : Int), (([] : List Int), ()))), ())), ())))))))) fun s0 =>
        bif (Go.Dn.inB x2 (((List.length x1) : Nat) : Int)) then
        (Go.Dn.share (List.getD x1 (Int.toNat x2) ((0 : Int), ((0 : Int), ((0 : Int), ((0 : Int), ((0 : Int), (false, (((0 : Int), (((0 : Int), ((0 : Int), (([] : List Int), ()))), ())), ())))))))) fun s1 =>
          (laws_eqMail.F k (s0, s1, ())).bind fun y2 =>
          bif (!y2.1.1) then
          (c0 (false, ()))
          else laws_eqMailS.l4 k c0 c1 n x0 x1 (IntKind.wrap .i64 (x2 + (1 : Int))))
        else none)
      else none)
    else c1 (())
def laws_eqMailS.F (k : Nat) (x : ((List (Int × (Int × (Int × (Int × (Int × (Bool × ((Int × ((Int × (Int × ((List Int) × Unit))) × Unit)) × Unit)))))))) × ((List (Int × (Int × (Int × (Int × (Int × (Bool × ((Int × ((Int × (Int × ((List Int) × Unit))) × Unit)) × Unit)))))))) × Unit))) : Option ((Bool × Unit) × Unit) :=
  bif ((((List.length x.1) : Nat) : Int) != (((List.length x.2.1) : Nat) : Int)) then
  (some ((false, ()), ()))
  else laws_eqMailS.l4 k (fun e3 =>
      some (e3, ())) (fun e4 =>
      some ((true, ()), ())) k x.1 x.2.1 (0 : Int)
def laws_eqMailS.hd : Hints := ⟨[(4, ⟨[0, 1, 5], []⟩)], [(0, []), (1, [0, 1, 5])], [4], [0, 1, 5], [(6, [0, 0, 3, 7, 0, 0, 48, 112, 255, 511])]⟩
def laws_eqMailS.lps (k : Nat) : List (Nat × Lp laws_eqMailS.sg.Out) := [(4, ⟨[.l kMail, .l kMail, .i], fun x => (fun x0 x1 x2 => ⟨[(0, .v false [.fz kMail x0]), (1, .v false [.fz kMail x1]), (5, .v false [.int .i64 x2])], [], []⟩) x.1 x.2.1 x.2.2.1, fun C n x => laws_eqMailS.l4 k (fun y => C .ret ((fun y0 => ⟨[(4, .v false [.bool y0])], [], []⟩) y.1)) (fun _ => C (.exit 0) ⟨[], [], []⟩) n x.1 x.2.1 x.2.2.1⟩)]
theorem laws_eqMailS.loops (k : Nat) : LoopsOk laws_eqMailS.E k laws_eqMailS.hd (laws_eqMailS.lps k) (loopsOf (Go.Proofs.Try.f130.body.getD .skip)) := ⟨⟨fun _ _ => rfl, fun _ _ _ => by kernel_rfl, fun _ => ⟨rfl, rfl⟩⟩, trivial⟩
theorem laws_eqMailS.den (k : Nat) (x : Sig.In laws_eqMailS.sg.ps) : denFn laws_eqMailS.E k Go.Proofs.Try.f130 laws_eqMailS.sg laws_eqMailS.hd (runL k laws_eqMailS.hd (laws_eqMailS.lps k)) x = laws_eqMailS.F k x := by kernel_rfl
theorem laws_eqMailS.ok (k : Nat) : Contract Try.prog 130 laws_eqMailS.sg (laws_eqMailS.F k) := ok_of (E := laws_eqMailS.E) (tysOk _ _) (eqsOk _) ⟨laws_eqMail.ok k, trivial⟩ Try.func130 rfl (by kernel_rfl) (laws_eqMailS.loops k) (laws_eqMailS.den k)
def laws_toPrefix.sg : Sig := ⟨[.b kPrefix], [(kPrefix, .rd)]⟩
def laws_toPrefix.E : Env := ⟨tys, bys, [], eqs⟩
def laws_toPrefix.F (k : Nat) (x : ((Int × (Int × Unit)) × Unit)) : Option (((Int × (Int × Unit)) × Unit) × Unit) :=
  some (x, ())
def laws_toPrefix.hd : Hints := ⟨[], [], [2], [0, 1, 2, 3], []⟩
def laws_toPrefix.lps (k : Nat) : List (Nat × Lp laws_toPrefix.sg.Out) := []
theorem laws_toPrefix.loops (k : Nat) : LoopsOk laws_toPrefix.E k laws_toPrefix.hd (laws_toPrefix.lps k) (loopsOf (Go.Proofs.Try.f246.body.getD .skip)) := trivial
theorem laws_toPrefix.den (k : Nat) (x : Sig.In laws_toPrefix.sg.ps) : denFn laws_toPrefix.E k Go.Proofs.Try.f246 laws_toPrefix.sg laws_toPrefix.hd (runL k laws_toPrefix.hd (laws_toPrefix.lps k)) x = laws_toPrefix.F k x := by kernel_rfl
theorem laws_toPrefix.ok (k : Nat) : Contract Try.prog 246 laws_toPrefix.sg (laws_toPrefix.F k) := ok_of (E := laws_toPrefix.E) (tysOk _ _) (eqsOk _) trivial Try.func246 rfl (by kernel_rfl) (laws_toPrefix.loops k) (laws_toPrefix.den k)
def laws_eqPrefix.sg : Sig := ⟨[.b kPrefix, .b kPrefix], [(.bool, .rd)]⟩
def laws_eqPrefix.E : Env := ⟨tys, bys, [], eqs⟩
def laws_eqPrefix.F (k : Nat) (x : ((Int × (Int × Unit)) × ((Int × (Int × Unit)) × Unit))) : Option ((Bool × Unit) × Unit) :=
  bif (x.1.1 != x.2.1.1) then
  (some ((false, ()), ()))
  else bif (x.1.2.1 != x.2.1.2.1) then
    (some ((false, ()), ()))
    else some ((true, ()), ())
def laws_eqPrefix.hd : Hints := ⟨[], [], [4], [0, 1, 2, 3], []⟩
def laws_eqPrefix.lps (k : Nat) : List (Nat × Lp laws_eqPrefix.sg.Out) := []
theorem laws_eqPrefix.loops (k : Nat) : LoopsOk laws_eqPrefix.E k laws_eqPrefix.hd (laws_eqPrefix.lps k) (loopsOf (Go.Proofs.Try.f249.body.getD .skip)) := trivial
theorem laws_eqPrefix.den (k : Nat) (x : Sig.In laws_eqPrefix.sg.ps) : denFn laws_eqPrefix.E k Go.Proofs.Try.f249 laws_eqPrefix.sg laws_eqPrefix.hd (runL k laws_eqPrefix.hd (laws_eqPrefix.lps k)) x = laws_eqPrefix.F k x := by kernel_rfl
theorem laws_eqPrefix.ok (k : Nat) : Contract Try.prog 249 laws_eqPrefix.sg (laws_eqPrefix.F k) := ok_of (E := laws_eqPrefix.E) (tysOk _ _) (eqsOk _) trivial Try.func249 rfl (by kernel_rfl) (laws_eqPrefix.loops k) (laws_eqPrefix.den k)
def laws_szRuleS.sg : Sig := ⟨[.b (.sl kRule), .b (.int .i64)], [((.int .i64), .rd)]⟩
def laws_szRuleS.E : Env := ⟨tys, bys, [], eqs⟩
def laws_szRuleS.F (k : Nat) (x : ((List ((Int × (Int × Unit)) × (Int × (Int × (Int × (Bool × (Int × (Int × Unit)))))))) × (Int × Unit))) : Option ((Int × Unit) × Unit) :=
  bif (decide (((IntKind.wrap .i64 (x.2.1 - (((List.length x.1) : Nat) : Int))) < (0 : Int)))) then
  (some (((-(1 : Int)), ()), ()))
  else some (((IntKind.wrap .i64 (x.2.1 - (((List.length x.1) : Nat) : Int))), ()), ())
def laws_szRuleS.hd : Hints := ⟨[], [], [4], [0, 1], []⟩
def laws_szRuleS.lps (k : Nat) : List (Nat × Lp laws_szRuleS.sg.Out) := []
theorem laws_szRuleS.loops (k : Nat) : LoopsOk laws_szRuleS.E k laws_szRuleS.hd (laws_szRuleS.lps k) (loopsOf (Go.Proofs.Try.f63.body.getD .skip)) := trivial
theorem laws_szRuleS.den (k : Nat) (x : Sig.In laws_szRuleS.sg.ps) : denFn laws_szRuleS.E k Go.Proofs.Try.f63 laws_szRuleS.sg laws_szRuleS.hd (runL k laws_szRuleS.hd (laws_szRuleS.lps k)) x = laws_szRuleS.F k x := by kernel_rfl
theorem laws_szRuleS.ok (k : Nat) : Contract Try.prog 63 laws_szRuleS.sg (laws_szRuleS.F k) := ok_of (E := laws_szRuleS.E) (tysOk _ _) (eqsOk _) trivial Try.func63 rfl (by kernel_rfl) (laws_szRuleS.loops k) (laws_szRuleS.den k)
def laws_szSettings.sg : Sig := ⟨[.b kSettings, .b (.int .i64)], [((.int .i64), .rd)]⟩
def laws_szSettings.E : Env := ⟨tys, bys, [(63, ⟨laws_szRuleS.sg, laws_szRuleS.F⟩)], eqs⟩
def laws_szSettings.F (k : Nat) (x : (((Int × (Int × (Int × Unit))) × (Int × ((List ((Int × (Int × Unit)) × (Int × (Int × (Int × (Bool × (Int × (Int × Unit)))))))) × ((List ((Int × (Int × Unit)) × (Int × (Int × (Int × (Bool × (Int × (Int × Unit)))))))) × Unit)))) × (Int × Unit))) : Option ((Int × Unit) × Unit) :=
  (laws_szRuleS.F k (x.1.2.2.1, x.2)).bind fun y0 =>
  bif (decide ((y0.1.1 < (0 : Int)))) then
  (some (((-(1 : Int)), ()), ()))
  else (laws_szRuleS.F k (x.1.2.2.2.1, y0.1)).bind fun y1 =>
    bif (decide ((y1.1.1 < (0 : Int)))) then
    (some (((-(1 : Int)), ()), ()))
    else some y1
def laws_szSettings.hd : Hints := ⟨[], [], [4], [0, 1, 2], []⟩
def laws_szSettings.lps (k : Nat) : List (Nat × Lp laws_szSettings.sg.Out) := []
theorem laws_szSettings.loops (k : Nat) : LoopsOk laws_szSettings.E k laws_szSettings.hd (laws_szSettings.lps k) (loopsOf (Go.Proofs.Try.f53.body.getD .skip)) := trivial
theorem laws_szSettings.den (k : Nat) (x : Sig.In laws_szSettings.sg.ps) : denFn laws_szSettings.E k Go.Proofs.Try.f53 laws_szSettings.sg laws_szSettings.hd (runL k laws_szSettings.hd (laws_szSettings.lps k)) x = laws_szSettings.F k x := by kernel_rfl
theorem laws_szSettings.ok (k : Nat) : Contract Try.prog 53 laws_szSettings.sg (laws_szSettings.F k) := ok_of (E := laws_szSettings.E) (tysOk _ _) (eqsOk _) ⟨laws_szRuleS.ok k, trivial⟩ Try.func53 rfl (by kernel_rfl) (laws_szSettings.loops k) (laws_szSettings.den k)
def spec_l4Hold.sg : Sig := ⟨[.b (.int .i64)], [(.bool, .rd)]⟩
def spec_l4Hold.E : Env := ⟨tys, bys, [(121, ⟨spec_l1In.sg, spec_l1In.F⟩)], eqs⟩
def spec_l4Hold.F (k : Nat) (x : (Int × Unit)) : Option ((Bool × Unit) × Unit) :=
  bif (x.1 == (0 : Int)) then
  (some ((true, ()), ()))
  else (spec_l1In.F k (x.1, (3 : Int), (200 : Int), ())).bind fun y0 =>
    some y0
def spec_l4Hold.hd : Hints := ⟨[], [], [2], [0], []⟩
def spec_l4Hold.lps (k : Nat) : List (Nat × Lp spec_l4Hold.sg.Out) := []
theorem spec_l4Hold.loops (k : Nat) : LoopsOk spec_l4Hold.E k spec_l4Hold.hd (spec_l4Hold.lps k) (loopsOf (Go.Proofs.Try.f306.body.getD .skip)) := trivial
theorem spec_l4Hold.den (k : Nat) (x : Sig.In spec_l4Hold.sg.ps) : denFn spec_l4Hold.E k Go.Proofs.Try.f306 spec_l4Hold.sg spec_l4Hold.hd (runL k spec_l4Hold.hd (spec_l4Hold.lps k)) x = spec_l4Hold.F k x := by kernel_rfl
theorem spec_l4Hold.ok (k : Nat) : Contract Try.prog 306 spec_l4Hold.sg (spec_l4Hold.F k) := ok_of (E := spec_l4Hold.E) (tysOk _ _) (eqsOk _) ⟨spec_l1In.ok k, trivial⟩ Try.func306 rfl (by kernel_rfl) (spec_l4Hold.loops k) (spec_l4Hold.den k)
def spec_ConfigFault.sg : Sig := ⟨[.b kConfig], [((.int .i64), .rd)]⟩
def spec_ConfigFault.E : Env := ⟨tys, bys, [(121, ⟨spec_l1In.sg, spec_l1In.F⟩), (306, ⟨spec_l4Hold.sg, spec_l4Hold.F⟩)], eqs⟩
def spec_ConfigFault.F (k : Nat) (x : ((Int × (Int × (Int × Unit))) × Unit)) : Option ((Int × Unit) × Unit) :=
  (spec_l1In.F k (x.1.1, (1 : Int), (65535 : Int), ())).bind fun y0 =>
  bif (!y0.1.1) then
  (some (((3 : Int), ()), ()))
  else (spec_l1In.F k (x.1.2.1, (1 : Int), (65535 : Int), ())).bind fun y1 =>
    bif (!y1.1.1) then
    (some (((3 : Int), ()), ()))
    else (spec_l4Hold.F k x.1.2.2).bind fun y2 =>
      bif (!y2.1.1) then
      (some (((3 : Int), ()), ()))
      else some (((0 : Int), ()), ())
def spec_ConfigFault.hd : Hints := ⟨[], [], [2], [0, 1], []⟩
def spec_ConfigFault.lps (k : Nat) : List (Nat × Lp spec_ConfigFault.sg.Out) := []
theorem spec_ConfigFault.loops (k : Nat) : LoopsOk spec_ConfigFault.E k spec_ConfigFault.hd (spec_ConfigFault.lps k) (loopsOf (Go.Proofs.Try.f253.body.getD .skip)) := trivial
theorem spec_ConfigFault.den (k : Nat) (x : Sig.In spec_ConfigFault.sg.ps) : denFn spec_ConfigFault.E k Go.Proofs.Try.f253 spec_ConfigFault.sg spec_ConfigFault.hd (runL k spec_ConfigFault.hd (spec_ConfigFault.lps k)) x = spec_ConfigFault.F k x := by kernel_rfl
theorem spec_ConfigFault.ok (k : Nat) : Contract Try.prog 253 spec_ConfigFault.sg (spec_ConfigFault.F k) := ok_of (E := spec_ConfigFault.E) (tysOk _ _) (eqsOk _) ⟨spec_l1In.ok k, spec_l4Hold.ok k, trivial⟩ Try.func253 rfl (by kernel_rfl) (spec_ConfigFault.loops k) (spec_ConfigFault.den k)
def spec_SettingsFault.sg : Sig := ⟨[.b kSettings], [((.int .i64), .rd)]⟩
def spec_SettingsFault.E : Env := ⟨tys, bys, [(120, ⟨spec_RulesFault.sg, spec_RulesFault.F⟩), (122, ⟨spec_l2Addr.sg, spec_l2Addr.F⟩), (253, ⟨spec_ConfigFault.sg, spec_ConfigFault.F⟩)], eqs⟩
def spec_SettingsFault.F (k : Nat) (x : (((Int × (Int × (Int × Unit))) × (Int × ((List ((Int × (Int × Unit)) × (Int × (Int × (Int × (Bool × (Int × (Int × Unit)))))))) × ((List ((Int × (Int × Unit)) × (Int × (Int × (Int × (Bool × (Int × (Int × Unit)))))))) × Unit)))) × Unit)) : Option ((Int × Unit) × Unit) :=
  (spec_ConfigFault.F k (x.1.1, ())).bind fun y0 =>
  bif (y0.1.1 != (0 : Int)) then
  (some y0)
  else (spec_l2Addr.F k (x.1.2.1, ())).bind fun y1 =>
    bif (!y1.1.1) then
    (some (((3 : Int), ()), ()))
    else (spec_RulesFault.F k (x.1.2.2.1, ())).bind fun y2 =>
      bif (y2.1.1 != (0 : Int)) then
      (some y2)
      else (spec_RulesFault.F k x.1.2.2.2).bind fun y3 =>
        some y3
def spec_SettingsFault.hd : Hints := ⟨[], [], [2], [0, 1, 3, 4], []⟩
def spec_SettingsFault.lps (k : Nat) : List (Nat × Lp spec_SettingsFault.sg.Out) := []
theorem spec_SettingsFault.loops (k : Nat) : LoopsOk spec_SettingsFault.E k spec_SettingsFault.hd (spec_SettingsFault.lps k) (loopsOf (Go.Proofs.Try.f150.body.getD .skip)) := trivial
theorem spec_SettingsFault.den (k : Nat) (x : Sig.In spec_SettingsFault.sg.ps) : denFn spec_SettingsFault.E k Go.Proofs.Try.f150 spec_SettingsFault.sg spec_SettingsFault.hd (runL k spec_SettingsFault.hd (spec_SettingsFault.lps k)) x = spec_SettingsFault.F k x := by kernel_rfl
theorem spec_SettingsFault.ok (k : Nat) : Contract Try.prog 150 spec_SettingsFault.sg (spec_SettingsFault.F k) := ok_of (E := spec_SettingsFault.E) (tysOk _ _) (eqsOk _) ⟨spec_RulesFault.ok k, spec_l2Addr.ok k, spec_ConfigFault.ok k, trivial⟩ Try.func150 rfl (by kernel_rfl) (spec_SettingsFault.loops k) (spec_SettingsFault.den k)
def laws_toRule.sg : Sig := ⟨[.b kRule], [(kRule, .rd)]⟩
def laws_toRule.E : Env := ⟨tys, bys, [(246, ⟨laws_toPrefix.sg, laws_toPrefix.F⟩)], eqs⟩
def laws_toRule.F (k : Nat) (x : (((Int × (Int × Unit)) × (Int × (Int × (Int × (Bool × (Int × (Int × Unit))))))) × Unit)) : Option ((((Int × (Int × Unit)) × (Int × (Int × (Int × (Bool × (Int × (Int × Unit))))))) × Unit) × Unit) :=
  (laws_toPrefix.F k (x.1.1, ())).bind fun y0 =>
  some (((y0.1.1, x.1.2), ()), ())
def laws_toRule.hd : Hints := ⟨[], [], [2], [0, 1, 2, 3], []⟩
def laws_toRule.lps (k : Nat) : List (Nat × Lp laws_toRule.sg.Out) := []
theorem laws_toRule.loops (k : Nat) : LoopsOk laws_toRule.E k laws_toRule.hd (laws_toRule.lps k) (loopsOf (Go.Proofs.Try.f164.body.getD .skip)) := trivial
theorem laws_toRule.den (k : Nat) (x : Sig.In laws_toRule.sg.ps) : denFn laws_toRule.E k Go.Proofs.Try.f164 laws_toRule.sg laws_toRule.hd (runL k laws_toRule.hd (laws_toRule.lps k)) x = laws_toRule.F k x := by kernel_rfl
theorem laws_toRule.ok (k : Nat) : Contract Try.prog 164 laws_toRule.sg (laws_toRule.F k) := ok_of (E := laws_toRule.E) (tysOk _ _) (eqsOk _) ⟨laws_toPrefix.ok k, trivial⟩ Try.func164 rfl (by kernel_rfl) (laws_toRule.loops k) (laws_toRule.den k)
def laws_toRuleS.sg : Sig := ⟨[.b (.sl kRule)], [((.sl kRule), .dp)]⟩
def laws_toRuleS.E : Env := ⟨tys, bys, [(164, ⟨laws_toRule.sg, laws_toRule.F⟩)], eqs⟩
def laws_toRuleS.l3 {ρ : Type} (k : Nat) (c0 : (List ((Int × (Int × Unit)) × (Int × (Int × (Int × (Bool × (Int × (Int × Unit))))))) × Unit) → Option ρ) : Nat → List ((Int × (Int × Unit)) × (Int × (Int × (Int × (Bool × (Int × (Int × Unit))))))) → Int → List ((Int × (Int × Unit)) × (Int × (Int × (Int × (Bool × (Int × (Int × Unit))))))) → Option ρ
  | 0 => fun _ _ _ => none
  | n + 1 => fun x0 x1 x2 => 
    bif (decide ((x1 < (((List.length x0) : Nat) : Int)))) then
    (bif (Go.Dn.inB x1 (((List.length x0) : Nat) : Int)) then
      (Go.Dn.share (List.getD x0 (Int.toNat x1) (((0 : Int), ((0 : Int), ())), ((0 : Int), ((0 : Int), ((0 : Int), (false, ((0 : Int), ((0 : Int), ())))))))) fun s0 =>
        (laws_toRule.F k (s0, ())).bind fun y1 =>
        bif (Go.Dn.inB x1 (((List.length x2) : Nat) : Int)) then
        (Go.Dn.share (List.set x2 (Int.toNat x1) (y1.1.1.1, y1.1.1.2.1, y1.1.1.2.2.1, y1.1.1.2.2.2.1, y1.1.1.2.2.2.2.1, y1.1.1.2.2.2.2.2.1, y1.1.1.2.2.2.2.2.2.1, (List.getD x2 (Int.toNat x1) (((0 : Int), ((0 : Int), ())), ((0 : Int), ((0 : Int), ((0 : Int), (false, ((0 : Int), ((0 : Int), ())))))))).2.2.2.2.2.2.2)) fun s2 =>
          laws_toRuleS.l3 k c0 n x0 (IntKind.wrap .i64 (x1 + (1 : Int))) s2)
        else none)
      else none)
    else c0 (x2, ())
def laws_toRuleS.F (k : Nat) (x : ((List ((Int × (Int × Unit)) × (Int × (Int × (Int × (Bool × (Int × (Int × Unit)))))))) × Unit)) : Option (((List ((Int × (Int × Unit)) × (Int × (Int × (Int × (Bool × (Int × (Int × Unit)))))))) × Unit) × Unit) :=
  bif (decide (((((List.length x.1) : Nat) : Int) ≤ (((List.length x.1) : Nat) : Int)))) then
  (bif (Go.Dn.roomy (Int.toNat (((List.length x.1) : Nat) : Int)) 64) then
    (laws_toRuleS.l3 k (fun e3 =>
        some (e3, ())) k x.1 (0 : Int) (List.replicate (Int.toNat (((List.length x.1) : Nat) : Int)) (((0 : Int), ((0 : Int), ())), ((0 : Int), ((0 : Int), ((0 : Int), (false, ((0 : Int), ((0 : Int), ())))))))))
    else none)
  else none
def laws_toRuleS.hd : Hints := ⟨[(3, ⟨[0, 3, 4], []⟩)], [(0, [3]), (1, [0, 3, 4])], [2], [0, 3, 4], []⟩
def laws_toRuleS.lps (k : Nat) : List (Nat × Lp laws_toRuleS.sg.Out) := [(3, ⟨[.l kRule, .i, .l kRule], fun x => (fun x0 x1 x2 => ⟨[(0, .v false [.fz kRule x0]), (3, .v false [.arr 0]), (4, .v false [.int .i64 x1])], [(0, .arr kRule true false x2)], []⟩) x.1 x.2.1 x.2.2.1, fun C n x => laws_toRuleS.l3 k (fun y => C (.exit 0) ((fun y0 => ⟨[(3, .v false [.arr 0])], [(0, .arr kRule true false y0)], []⟩) y.1)) n x.1 x.2.1 x.2.2.1⟩)]
theorem laws_toRuleS.loops (k : Nat) : LoopsOk laws_toRuleS.E k laws_toRuleS.hd (laws_toRuleS.lps k) (loopsOf (Go.Proofs.Try.f65.body.getD .skip)) := ⟨⟨fun _ _ => rfl, fun _ _ _ => by kernel_rfl, fun _ => ⟨rfl, rfl⟩⟩, trivial⟩
theorem laws_toRuleS.den (k : Nat) (x : Sig.In laws_toRuleS.sg.ps) : denFn laws_toRuleS.E k Go.Proofs.Try.f65 laws_toRuleS.sg laws_toRuleS.hd (runL k laws_toRuleS.hd (laws_toRuleS.lps k)) x = laws_toRuleS.F k x := by kernel_rfl
theorem laws_toRuleS.ok (k : Nat) : Contract Try.prog 65 laws_toRuleS.sg (laws_toRuleS.F k) := ok_of (E := laws_toRuleS.E) (tysOk _ _) (eqsOk _) ⟨laws_toRule.ok k, trivial⟩ Try.func65 rfl (by kernel_rfl) (laws_toRuleS.loops k) (laws_toRuleS.den k)
def laws_toConfig.sg : Sig := ⟨[.b kConfig], [(kConfig, .rd)]⟩
def laws_toConfig.E : Env := ⟨tys, bys, [], eqs⟩
def laws_toConfig.F (k : Nat) (x : ((Int × (Int × (Int × Unit))) × Unit)) : Option (((Int × (Int × (Int × Unit))) × Unit) × Unit) :=
  some (x, ())
def laws_toConfig.hd : Hints := ⟨[], [], [2], [0, 1, 2, 3], []⟩
def laws_toConfig.lps (k : Nat) : List (Nat × Lp laws_toConfig.sg.Out) := []
theorem laws_toConfig.loops (k : Nat) : LoopsOk laws_toConfig.E k laws_toConfig.hd (laws_toConfig.lps k) (loopsOf (Go.Proofs.Try.f153.body.getD .skip)) := trivial
theorem laws_toConfig.den (k : Nat) (x : Sig.In laws_toConfig.sg.ps) : denFn laws_toConfig.E k Go.Proofs.Try.f153 laws_toConfig.sg laws_toConfig.hd (runL k laws_toConfig.hd (laws_toConfig.lps k)) x = laws_toConfig.F k x := by kernel_rfl
theorem laws_toConfig.ok (k : Nat) : Contract Try.prog 153 laws_toConfig.sg (laws_toConfig.F k) := ok_of (E := laws_toConfig.E) (tysOk _ _) (eqsOk _) trivial Try.func153 rfl (by kernel_rfl) (laws_toConfig.loops k) (laws_toConfig.den k)
def laws_toSettings.sg : Sig := ⟨[.b kSettings], [(kSettings, .dp)]⟩
def laws_toSettings.E : Env := ⟨tys, bys, [(65, ⟨laws_toRuleS.sg, laws_toRuleS.F⟩), (153, ⟨laws_toConfig.sg, laws_toConfig.F⟩)], eqs⟩
def laws_toSettings.F (k : Nat) (x : (((Int × (Int × (Int × Unit))) × (Int × ((List ((Int × (Int × Unit)) × (Int × (Int × (Int × (Bool × (Int × (Int × Unit)))))))) × ((List ((Int × (Int × Unit)) × (Int × (Int × (Int × (Bool × (Int × (Int × Unit)))))))) × Unit)))) × Unit)) : Option ((((Int × (Int × (Int × Unit))) × (Int × ((List ((Int × (Int × Unit)) × (Int × (Int × (Int × (Bool × (Int × (Int × Unit)))))))) × ((List ((Int × (Int × Unit)) × (Int × (Int × (Int × (Bool × (Int × (Int × Unit)))))))) × Unit)))) × Unit) × Unit) :=
  (laws_toConfig.F k (x.1.1, ())).bind fun y0 =>
  (laws_toRuleS.F k (x.1.2.2.1, ())).bind fun y1 =>
  (laws_toRuleS.F k x.1.2.2.2).bind fun y2 =>
  some (((y0.1.1, x.1.2.1, y1.1.1, y2.1), ()), ())
def laws_toSettings.hd : Hints := ⟨[], [], [2], [0, 1, 2, 3], []⟩
def laws_toSettings.lps (k : Nat) : List (Nat × Lp laws_toSettings.sg.Out) := []
theorem laws_toSettings.loops (k : Nat) : LoopsOk laws_toSettings.E k laws_toSettings.hd (laws_toSettings.lps k) (loopsOf (Go.Proofs.Try.f55.body.getD .skip)) := trivial
theorem laws_toSettings.den (k : Nat) (x : Sig.In laws_toSettings.sg.ps) : denFn laws_toSettings.E k Go.Proofs.Try.f55 laws_toSettings.sg laws_toSettings.hd (runL k laws_toSettings.hd (laws_toSettings.lps k)) x = laws_toSettings.F k x := by kernel_rfl
theorem laws_toSettings.ok (k : Nat) : Contract Try.prog 55 laws_toSettings.sg (laws_toSettings.F k) := ok_of (E := laws_toSettings.E) (tysOk _ _) (eqsOk _) ⟨laws_toRuleS.ok k, laws_toConfig.ok k, trivial⟩ Try.func55 rfl (by kernel_rfl) (laws_toSettings.loops k) (laws_toSettings.den k)
def impl_isHold.sg : Sig := ⟨[.b (.int .i64)], [(.bool, .rd)]⟩
def impl_isHold.E : Env := ⟨tys, bys, [(102, ⟨impl_in.sg, impl_in.F⟩)], eqs⟩
def impl_isHold.F (k : Nat) (x : (Int × Unit)) : Option ((Bool × Unit) × Unit) :=
  bif (x.1 == (0 : Int)) then
  (some ((true, ()), ()))
  else (impl_in.F k (x.1, (3 : Int), (200 : Int), ())).bind fun y0 =>
    some y0
def impl_isHold.hd : Hints := ⟨[], [], [2], [0], []⟩
def impl_isHold.lps (k : Nat) : List (Nat × Lp impl_isHold.sg.Out) := []
theorem impl_isHold.loops (k : Nat) : LoopsOk impl_isHold.E k impl_isHold.hd (impl_isHold.lps k) (loopsOf (Go.Proofs.Try.f308.body.getD .skip)) := trivial
theorem impl_isHold.den (k : Nat) (x : Sig.In impl_isHold.sg.ps) : denFn impl_isHold.E k Go.Proofs.Try.f308 impl_isHold.sg impl_isHold.hd (runL k impl_isHold.hd (impl_isHold.lps k)) x = impl_isHold.F k x := by kernel_rfl
theorem impl_isHold.ok (k : Nat) : Contract Try.prog 308 impl_isHold.sg (impl_isHold.F k) := ok_of (E := impl_isHold.E) (tysOk _ _) (eqsOk _) ⟨impl_in.ok k, trivial⟩ Try.func308 rfl (by kernel_rfl) (impl_isHold.loops k) (impl_isHold.den k)
def impl_ConfigFault.sg : Sig := ⟨[.b kConfig], [((.int .i64), .rd)]⟩
def impl_ConfigFault.E : Env := ⟨tys, bys, [(115, ⟨impl_isSystem.sg, impl_isSystem.F⟩), (308, ⟨impl_isHold.sg, impl_isHold.F⟩)], eqs⟩
def impl_ConfigFault.F (k : Nat) (x : ((Int × (Int × (Int × Unit))) × Unit)) : Option ((Int × Unit) × Unit) :=
  (impl_isSystem.F k (x.1.1, ())).bind fun y0 =>
  bif (!y0.1.1) then
  (some (((3 : Int), ()), ()))
  else (impl_isSystem.F k (x.1.2.1, ())).bind fun y1 =>
    bif (!y1.1.1) then
    (some (((3 : Int), ()), ()))
    else (impl_isHold.F k x.1.2.2).bind fun y2 =>
      bif (!y2.1.1) then
      (some (((3 : Int), ()), ()))
      else some (((0 : Int), ()), ())
def impl_ConfigFault.hd : Hints := ⟨[], [], [2], [0, 1], []⟩
def impl_ConfigFault.lps (k : Nat) : List (Nat × Lp impl_ConfigFault.sg.Out) := []
theorem impl_ConfigFault.loops (k : Nat) : LoopsOk impl_ConfigFault.E k impl_ConfigFault.hd (impl_ConfigFault.lps k) (loopsOf (Go.Proofs.Try.f265.body.getD .skip)) := trivial
theorem impl_ConfigFault.den (k : Nat) (x : Sig.In impl_ConfigFault.sg.ps) : denFn impl_ConfigFault.E k Go.Proofs.Try.f265 impl_ConfigFault.sg impl_ConfigFault.hd (runL k impl_ConfigFault.hd (impl_ConfigFault.lps k)) x = impl_ConfigFault.F k x := by kernel_rfl
theorem impl_ConfigFault.ok (k : Nat) : Contract Try.prog 265 impl_ConfigFault.sg (impl_ConfigFault.F k) := ok_of (E := impl_ConfigFault.E) (tysOk _ _) (eqsOk _) ⟨impl_isSystem.ok k, impl_isHold.ok k, trivial⟩ Try.func265 rfl (by kernel_rfl) (impl_ConfigFault.loops k) (impl_ConfigFault.den k)
def impl_SettingsFault.sg : Sig := ⟨[.b kSettings], [((.int .i64), .rd)]⟩
def impl_SettingsFault.E : Env := ⟨tys, bys, [(114, ⟨impl_RulesFault.sg, impl_RulesFault.F⟩), (116, ⟨impl_isAddr.sg, impl_isAddr.F⟩), (265, ⟨impl_ConfigFault.sg, impl_ConfigFault.F⟩)], eqs⟩
def impl_SettingsFault.F (k : Nat) (x : (((Int × (Int × (Int × Unit))) × (Int × ((List ((Int × (Int × Unit)) × (Int × (Int × (Int × (Bool × (Int × (Int × Unit)))))))) × ((List ((Int × (Int × Unit)) × (Int × (Int × (Int × (Bool × (Int × (Int × Unit)))))))) × Unit)))) × Unit)) : Option ((Int × Unit) × Unit) :=
  (impl_ConfigFault.F k (x.1.1, ())).bind fun y0 =>
  bif (y0.1.1 != (0 : Int)) then
  (some y0)
  else (impl_isAddr.F k (x.1.2.1, ())).bind fun y1 =>
    bif (!y1.1.1) then
    (some (((3 : Int), ()), ()))
    else (impl_RulesFault.F k (x.1.2.2.1, ())).bind fun y2 =>
      bif (y2.1.1 != (0 : Int)) then
      (some y2)
      else (impl_RulesFault.F k x.1.2.2.2).bind fun y3 =>
        some y3
def impl_SettingsFault.hd : Hints := ⟨[], [], [2], [0, 1, 3, 4], []⟩
def impl_SettingsFault.lps (k : Nat) : List (Nat × Lp impl_SettingsFault.sg.Out) := []
theorem impl_SettingsFault.loops (k : Nat) : LoopsOk impl_SettingsFault.E k impl_SettingsFault.hd (impl_SettingsFault.lps k) (loopsOf (Go.Proofs.Try.f174.body.getD .skip)) := trivial
theorem impl_SettingsFault.den (k : Nat) (x : Sig.In impl_SettingsFault.sg.ps) : denFn impl_SettingsFault.E k Go.Proofs.Try.f174 impl_SettingsFault.sg impl_SettingsFault.hd (runL k impl_SettingsFault.hd (impl_SettingsFault.lps k)) x = impl_SettingsFault.F k x := by kernel_rfl
theorem impl_SettingsFault.ok (k : Nat) : Contract Try.prog 174 impl_SettingsFault.sg (impl_SettingsFault.F k) := ok_of (E := impl_SettingsFault.E) (tysOk _ _) (eqsOk _) ⟨impl_RulesFault.ok k, impl_isAddr.ok k, impl_ConfigFault.ok k, trivial⟩ Try.func174 rfl (by kernel_rfl) (impl_SettingsFault.loops k) (impl_SettingsFault.den k)
def laws_eqRule.sg : Sig := ⟨[.b kRule, .b kRule], [(.bool, .rd)]⟩
def laws_eqRule.E : Env := ⟨tys, bys, [(249, ⟨laws_eqPrefix.sg, laws_eqPrefix.F⟩)], eqs⟩
def laws_eqRule.F (k : Nat) (x : (((Int × (Int × Unit)) × (Int × (Int × (Int × (Bool × (Int × (Int × Unit))))))) × (((Int × (Int × Unit)) × (Int × (Int × (Int × (Bool × (Int × (Int × Unit))))))) × Unit))) : Option ((Bool × Unit) × Unit) :=
  (laws_eqPrefix.F k (x.1.1, x.2.1.1, ())).bind fun y0 =>
  bif (!y0.1.1) then
  (some ((false, ()), ()))
  else bif (x.1.2.1 != x.2.1.2.1) then
    (some ((false, ()), ()))
    else bif (x.1.2.2.1 != x.2.1.2.2.1) then
      (some ((false, ()), ()))
      else bif (x.1.2.2.2.1 != x.2.1.2.2.2.1) then
        (some ((false, ()), ()))
        else bif (!(x.1.2.2.2.2.1 == x.2.1.2.2.2.2.1)) then
          (some ((false, ()), ()))
          else bif (x.1.2.2.2.2.2.1 != x.2.1.2.2.2.2.2.1) then
            (some ((false, ()), ()))
            else bif (x.1.2.2.2.2.2.2.1 != x.2.1.2.2.2.2.2.2.1) then
              (some ((false, ()), ()))
              else some ((true, ()), ())
def laws_eqRule.hd : Hints := ⟨[], [], [4], [0, 1, 2, 3], []⟩
def laws_eqRule.lps (k : Nat) : List (Nat × Lp laws_eqRule.sg.Out) := []
theorem laws_eqRule.loops (k : Nat) : LoopsOk laws_eqRule.E k laws_eqRule.hd (laws_eqRule.lps k) (loopsOf (Go.Proofs.Try.f166.body.getD .skip)) := trivial
theorem laws_eqRule.den (k : Nat) (x : Sig.In laws_eqRule.sg.ps) : denFn laws_eqRule.E k Go.Proofs.Try.f166 laws_eqRule.sg laws_eqRule.hd (runL k laws_eqRule.hd (laws_eqRule.lps k)) x = laws_eqRule.F k x := by kernel_rfl
theorem laws_eqRule.ok (k : Nat) : Contract Try.prog 166 laws_eqRule.sg (laws_eqRule.F k) := ok_of (E := laws_eqRule.E) (tysOk _ _) (eqsOk _) ⟨laws_eqPrefix.ok k, trivial⟩ Try.func166 rfl (by kernel_rfl) (laws_eqRule.loops k) (laws_eqRule.den k)
def laws_eqRuleS.sg : Sig := ⟨[.b (.sl kRule), .b (.sl kRule)], [(.bool, .rd)]⟩
def laws_eqRuleS.E : Env := ⟨tys, bys, [(166, ⟨laws_eqRule.sg, laws_eqRule.F⟩)], eqs⟩
def laws_eqRuleS.l4 {ρ : Type} (k : Nat) (c0 : (Bool × Unit) → Option ρ) (c1 : Unit → Option ρ) : Nat → List ((Int × (Int × Unit)) × (Int × (Int × (Int × (Bool × (Int × (Int × Unit))))))) → List ((Int × (Int × Unit)) × (Int × (Int × (Int × (Bool × (Int × (Int × Unit))))))) → Int → Option ρ
  | 0 => fun _ _ _ => none
  | n + 1 => fun x0 x1 x2 => 
    bif (decide ((x2 < (((List.length x0) : Nat) : Int)))) then
    (bif (Go.Dn.inB x2 (((List.length x0) : Nat) : Int)) then
      (Go.Dn.share (List.getD x0 (Int.toNat x2) (((0 : Int), ((0 : Int), ())), ((0 : Int), ((0 : Int), ((0 : Int), (false, ((0 : Int), ((0 : Int), ())))))))) fun s0 =>
        bif (Go.Dn.inB x2 (((List.length x1) : Nat) : Int)) then
        (Go.Dn.share (List.getD x1 (Int.toNat x2) (((0 : Int), ((0 : Int), ())), ((0 : Int), ((0 : Int), ((0 : Int), (false, ((0 : Int), ((0 : Int), ())))))))) fun s1 =>
          (laws_eqRule.F k (s0, s1, ())).bind fun y2 =>
          bif (!y2.1.1) then
          (c0 (false, ()))
          else laws_eqRuleS.l4 k c0 c1 n x0 x1 (IntKind.wrap .i64 (x2 + (1 : Int))))
        else none)
      else none)
    else c1 (())
def laws_eqRuleS.F (k : Nat) (x : ((List ((Int × (Int × Unit)) × (Int × (Int × (Int × (Bool × (Int × (Int × Unit)))))))) × ((List ((Int × (Int × Unit)) × (Int × (Int × (Int × (Bool × (Int × (Int × Unit)))))))) × Unit))) : Option ((Bool × Unit) × Unit) :=
  bif ((((List.length x.1) : Nat) : Int) != (((List.length x.2.1) : Nat) : Int)) then
  (some ((false, ()), ()))
  else laws_eqRuleS.l4 k (fun e3 =>
      some (e3, ())) (fun e4 =>
      some ((true, ()), ())) k x.1 x.2.1 (0 : Int)
def laws_eqRuleS.hd : Hints := ⟨[(4, ⟨[0, 1, 5], []⟩)], [(0, []), (1, [0, 1, 5])], [4], [0, 1, 5], [(6, [0, 0, 3, 7, 0, 0, 48, 112, 255, 511])]⟩
def laws_eqRuleS.lps (k : Nat) : List (Nat × Lp laws_eqRuleS.sg.Out) := [(4, ⟨[.l kRule, .l kRule, .i], fun x => (fun x0 x1 x2 => ⟨[(0, .v false [.fz kRule x0]), (1, .v false [.fz kRule x1]), (5, .v false [.int .i64 x2])], [], []⟩) x.1 x.2.1 x.2.2.1, fun C n x => laws_eqRuleS.l4 k (fun y => C .ret ((fun y0 => ⟨[(4, .v false [.bool y0])], [], []⟩) y.1)) (fun _ => C (.exit 0) ⟨[], [], []⟩) n x.1 x.2.1 x.2.2.1⟩)]
theorem laws_eqRuleS.loops (k : Nat) : LoopsOk laws_eqRuleS.E k laws_eqRuleS.hd (laws_eqRuleS.lps k) (loopsOf (Go.Proofs.Try.f67.body.getD .skip)) := ⟨⟨fun _ _ => rfl, fun _ _ _ => by kernel_rfl, fun _ => ⟨rfl, rfl⟩⟩, trivial⟩
theorem laws_eqRuleS.den (k : Nat) (x : Sig.In laws_eqRuleS.sg.ps) : denFn laws_eqRuleS.E k Go.Proofs.Try.f67 laws_eqRuleS.sg laws_eqRuleS.hd (runL k laws_eqRuleS.hd (laws_eqRuleS.lps k)) x = laws_eqRuleS.F k x := by kernel_rfl
theorem laws_eqRuleS.ok (k : Nat) : Contract Try.prog 67 laws_eqRuleS.sg (laws_eqRuleS.F k) := ok_of (E := laws_eqRuleS.E) (tysOk _ _) (eqsOk _) ⟨laws_eqRule.ok k, trivial⟩ Try.func67 rfl (by kernel_rfl) (laws_eqRuleS.loops k) (laws_eqRuleS.den k)
def laws_eqConfig.sg : Sig := ⟨[.b kConfig, .b kConfig], [(.bool, .rd)]⟩
def laws_eqConfig.E : Env := ⟨tys, bys, [], eqs⟩
def laws_eqConfig.F (k : Nat) (x : ((Int × (Int × (Int × Unit))) × ((Int × (Int × (Int × Unit))) × Unit))) : Option ((Bool × Unit) × Unit) :=
  bif (x.1.1 != x.2.1.1) then
  (some ((false, ()), ()))
  else bif (x.1.2.1 != x.2.1.2.1) then
    (some ((false, ()), ()))
    else bif (x.1.2.2.1 != x.2.1.2.2.1) then
      (some ((false, ()), ()))
      else some ((true, ()), ())
def laws_eqConfig.hd : Hints := ⟨[], [], [4], [0, 1, 2, 3], []⟩
def laws_eqConfig.lps (k : Nat) : List (Nat × Lp laws_eqConfig.sg.Out) := []
theorem laws_eqConfig.loops (k : Nat) : LoopsOk laws_eqConfig.E k laws_eqConfig.hd (laws_eqConfig.lps k) (loopsOf (Go.Proofs.Try.f157.body.getD .skip)) := trivial
theorem laws_eqConfig.den (k : Nat) (x : Sig.In laws_eqConfig.sg.ps) : denFn laws_eqConfig.E k Go.Proofs.Try.f157 laws_eqConfig.sg laws_eqConfig.hd (runL k laws_eqConfig.hd (laws_eqConfig.lps k)) x = laws_eqConfig.F k x := by kernel_rfl
theorem laws_eqConfig.ok (k : Nat) : Contract Try.prog 157 laws_eqConfig.sg (laws_eqConfig.F k) := ok_of (E := laws_eqConfig.E) (tysOk _ _) (eqsOk _) trivial Try.func157 rfl (by kernel_rfl) (laws_eqConfig.loops k) (laws_eqConfig.den k)
def laws_eqSettings.sg : Sig := ⟨[.b kSettings, .b kSettings], [(.bool, .rd)]⟩
def laws_eqSettings.E : Env := ⟨tys, bys, [(67, ⟨laws_eqRuleS.sg, laws_eqRuleS.F⟩), (157, ⟨laws_eqConfig.sg, laws_eqConfig.F⟩)], eqs⟩
def laws_eqSettings.F (k : Nat) (x : (((Int × (Int × (Int × Unit))) × (Int × ((List ((Int × (Int × Unit)) × (Int × (Int × (Int × (Bool × (Int × (Int × Unit)))))))) × ((List ((Int × (Int × Unit)) × (Int × (Int × (Int × (Bool × (Int × (Int × Unit)))))))) × Unit)))) × (((Int × (Int × (Int × Unit))) × (Int × ((List ((Int × (Int × Unit)) × (Int × (Int × (Int × (Bool × (Int × (Int × Unit)))))))) × ((List ((Int × (Int × Unit)) × (Int × (Int × (Int × (Bool × (Int × (Int × Unit)))))))) × Unit)))) × Unit))) : Option ((Bool × Unit) × Unit) :=
  (laws_eqConfig.F k (x.1.1, x.2.1.1, ())).bind fun y0 =>
  bif (!y0.1.1) then
  (some ((false, ()), ()))
  else bif (x.1.2.1 != x.2.1.2.1) then
    (some ((false, ()), ()))
    else (laws_eqRuleS.F k (x.1.2.2.1, x.2.1.2.2.1, ())).bind fun y1 =>
      bif (!y1.1.1) then
      (some ((false, ()), ()))
      else (laws_eqRuleS.F k (x.1.2.2.2.1, x.2.1.2.2.2)).bind fun y2 =>
        bif (!y2.1.1) then
        (some ((false, ()), ()))
        else some ((true, ()), ())
def laws_eqSettings.hd : Hints := ⟨[], [], [4], [0, 1, 2, 3], []⟩
def laws_eqSettings.lps (k : Nat) : List (Nat × Lp laws_eqSettings.sg.Out) := []
theorem laws_eqSettings.loops (k : Nat) : LoopsOk laws_eqSettings.E k laws_eqSettings.hd (laws_eqSettings.lps k) (loopsOf (Go.Proofs.Try.f58.body.getD .skip)) := trivial
theorem laws_eqSettings.den (k : Nat) (x : Sig.In laws_eqSettings.sg.ps) : denFn laws_eqSettings.E k Go.Proofs.Try.f58 laws_eqSettings.sg laws_eqSettings.hd (runL k laws_eqSettings.hd (laws_eqSettings.lps k)) x = laws_eqSettings.F k x := by kernel_rfl
theorem laws_eqSettings.ok (k : Nat) : Contract Try.prog 58 laws_eqSettings.sg (laws_eqSettings.F k) := ok_of (E := laws_eqSettings.E) (tysOk _ _) (eqsOk _) ⟨laws_eqRuleS.ok k, laws_eqConfig.ok k, trivial⟩ Try.func58 rfl (by kernel_rfl) (laws_eqSettings.loops k) (laws_eqSettings.den k)
def laws_eqNodeS.sg : Sig := ⟨[.b (.sl kNode), .b (.sl kNode)], [(.bool, .rd)]⟩
def laws_eqNodeS.E : Env := ⟨tys, bys, [(35, ⟨laws_eqNode.sg, laws_eqNode.F⟩)], eqs⟩
def laws_eqNodeS.l4 {ρ : Type} (k : Nat) (c0 : (Bool × Unit) → Option ρ) (c1 : Unit → Option ρ) : Nat → List (Int × (Bool × (Int × (Int × ((List (Int × ((Int × (Int × ((List Int) × Unit))) × Unit))) × (Int × (Int × (Int × (Int × Unit))))))))) → List (Int × (Bool × (Int × (Int × ((List (Int × ((Int × (Int × ((List Int) × Unit))) × Unit))) × (Int × (Int × (Int × (Int × Unit))))))))) → Int → Option ρ
  | 0 => fun _ _ _ => none
  | n + 1 => fun x0 x1 x2 => 
    bif (decide ((x2 < (((List.length x0) : Nat) : Int)))) then
    (bif (Go.Dn.inB x2 (((List.length x0) : Nat) : Int)) then
      (Go.Dn.share (List.getD x0 (Int.toNat x2) ((0 : Int), (false, ((0 : Int), ((0 : Int), (([] : List (Int × ((Int × (Int × ((List Int) × Unit))) × Unit))), ((0 : Int), ((0 : Int), ((0 : Int), ((0 : Int), ())))))))))) fun s0 =>
        bif (Go.Dn.inB x2 (((List.length x1) : Nat) : Int)) then
        (Go.Dn.share (List.getD x1 (Int.toNat x2) ((0 : Int), (false, ((0 : Int), ((0 : Int), (([] : List (Int × ((Int × (Int × ((List Int) × Unit))) × Unit))), ((0 : Int), ((0 : Int), ((0 : Int), ((0 : Int), ())))))))))) fun s1 =>
          (laws_eqNode.F k (s0, s1, ())).bind fun y2 =>
          bif (!y2.1.1) then
          (c0 (false, ()))
          else laws_eqNodeS.l4 k c0 c1 n x0 x1 (IntKind.wrap .i64 (x2 + (1 : Int))))
        else none)
      else none)
    else c1 (())
def laws_eqNodeS.F (k : Nat) (x : ((List (Int × (Bool × (Int × (Int × ((List (Int × ((Int × (Int × ((List Int) × Unit))) × Unit))) × (Int × (Int × (Int × (Int × Unit)))))))))) × ((List (Int × (Bool × (Int × (Int × ((List (Int × ((Int × (Int × ((List Int) × Unit))) × Unit))) × (Int × (Int × (Int × (Int × Unit)))))))))) × Unit))) : Option ((Bool × Unit) × Unit) :=
  bif ((((List.length x.1) : Nat) : Int) != (((List.length x.2.1) : Nat) : Int)) then
  (some ((false, ()), ()))
  else laws_eqNodeS.l4 k (fun e3 =>
      some (e3, ())) (fun e4 =>
      some ((true, ()), ())) k x.1 x.2.1 (0 : Int)
def laws_eqNodeS.hd : Hints := ⟨[(4, ⟨[0, 1, 5], []⟩)], [(0, []), (1, [0, 1, 5])], [4], [0, 1, 5], [(6, [0, 0, 3, 7, 0, 0, 48, 112, 255, 511])]⟩
def laws_eqNodeS.lps (k : Nat) : List (Nat × Lp laws_eqNodeS.sg.Out) := [(4, ⟨[.l kNode, .l kNode, .i], fun x => (fun x0 x1 x2 => ⟨[(0, .v false [.fz kNode x0]), (1, .v false [.fz kNode x1]), (5, .v false [.int .i64 x2])], [], []⟩) x.1 x.2.1 x.2.2.1, fun C n x => laws_eqNodeS.l4 k (fun y => C .ret ((fun y0 => ⟨[(4, .v false [.bool y0])], [], []⟩) y.1)) (fun _ => C (.exit 0) ⟨[], [], []⟩) n x.1 x.2.1 x.2.2.1⟩)]
theorem laws_eqNodeS.loops (k : Nat) : LoopsOk laws_eqNodeS.E k laws_eqNodeS.hd (laws_eqNodeS.lps k) (loopsOf (Go.Proofs.Try.f176.body.getD .skip)) := ⟨⟨fun _ _ => rfl, fun _ _ _ => by kernel_rfl, fun _ => ⟨rfl, rfl⟩⟩, trivial⟩
theorem laws_eqNodeS.den (k : Nat) (x : Sig.In laws_eqNodeS.sg.ps) : denFn laws_eqNodeS.E k Go.Proofs.Try.f176 laws_eqNodeS.sg laws_eqNodeS.hd (runL k laws_eqNodeS.hd (laws_eqNodeS.lps k)) x = laws_eqNodeS.F k x := by kernel_rfl
theorem laws_eqNodeS.ok (k : Nat) : Contract Try.prog 176 laws_eqNodeS.sg (laws_eqNodeS.F k) := ok_of (E := laws_eqNodeS.E) (tysOk _ _) (eqsOk _) ⟨laws_eqNode.ok k, trivial⟩ Try.func176 rfl (by kernel_rfl) (laws_eqNodeS.loops k) (laws_eqNodeS.den k)
def laws_eqWire.sg : Sig := ⟨[.b kWire, .b kWire], [(.bool, .rd)]⟩
def laws_eqWire.E : Env := ⟨tys, bys, [(156, ⟨laws_eqByteS.sg, laws_eqByteS.F⟩)], eqs⟩
def laws_eqWire.F (k : Nat) (x : ((Int × ((List Int) × (Int × ((List Int) × Unit)))) × ((Int × ((List Int) × (Int × ((List Int) × Unit)))) × Unit))) : Option ((Bool × Unit) × Unit) :=
  bif (x.1.1 != x.2.1.1) then
  (some ((false, ()), ()))
  else (laws_eqByteS.F k (x.1.2.1, x.2.1.2.1, ())).bind fun y0 =>
    bif (!y0.1.1) then
    (some ((false, ()), ()))
    else bif (x.1.2.2.1 != x.2.1.2.2.1) then
      (some ((false, ()), ()))
      else (laws_eqByteS.F k (x.1.2.2.2.1, x.2.1.2.2.2)).bind fun y1 =>
        bif (!y1.1.1) then
        (some ((false, ()), ()))
        else some ((true, ()), ())
def laws_eqWire.hd : Hints := ⟨[], [], [4], [0, 1, 2, 3], []⟩
def laws_eqWire.lps (k : Nat) : List (Nat × Lp laws_eqWire.sg.Out) := []
theorem laws_eqWire.loops (k : Nat) : LoopsOk laws_eqWire.E k laws_eqWire.hd (laws_eqWire.lps k) (loopsOf (Go.Proofs.Try.f267.body.getD .skip)) := trivial
theorem laws_eqWire.den (k : Nat) (x : Sig.In laws_eqWire.sg.ps) : denFn laws_eqWire.E k Go.Proofs.Try.f267 laws_eqWire.sg laws_eqWire.hd (runL k laws_eqWire.hd (laws_eqWire.lps k)) x = laws_eqWire.F k x := by kernel_rfl
theorem laws_eqWire.ok (k : Nat) : Contract Try.prog 267 laws_eqWire.sg (laws_eqWire.F k) := ok_of (E := laws_eqWire.E) (tysOk _ _) (eqsOk _) ⟨laws_eqByteS.ok k, trivial⟩ Try.func267 rfl (by kernel_rfl) (laws_eqWire.loops k) (laws_eqWire.den k)
def laws_eqWireS.sg : Sig := ⟨[.b (.sl kWire), .b (.sl kWire)], [(.bool, .rd)]⟩
def laws_eqWireS.E : Env := ⟨tys, bys, [(267, ⟨laws_eqWire.sg, laws_eqWire.F⟩)], eqs⟩
def laws_eqWireS.l4 {ρ : Type} (k : Nat) (c0 : (Bool × Unit) → Option ρ) (c1 : Unit → Option ρ) : Nat → List (Int × ((List Int) × (Int × ((List Int) × Unit)))) → List (Int × ((List Int) × (Int × ((List Int) × Unit)))) → Int → Option ρ
  | 0 => fun _ _ _ => none
  | n + 1 => fun x0 x1 x2 => 
    bif (decide ((x2 < (((List.length x0) : Nat) : Int)))) then
    (bif (Go.Dn.inB x2 (((List.length x0) : Nat) : Int)) then
      (Go.Dn.share (List.getD x0 (Int.toNat x2) ((0 : Int), (([] : List Int), ((0 : Int), (([] : List Int), ()))))) fun s0 =>
        bif (Go.Dn.inB x2 (((List.length x1) : Nat) : Int)) then
        (Go.Dn.share (List.getD x1 (Int.toNat x2) ((0 : Int), (([] : List Int), ((0 : Int), (([] : List Int), ()))))) fun s1 =>
          (laws_eqWire.F k (s0, s1, ())).bind fun y2 =>
          bif (!y2.1.1) then
          (c0 (false, ()))
          else laws_eqWireS.l4 k c0 c1 n x0 x1 (IntKind.wrap .i64 (x2 + (1 : Int))))
        else none)
      else none)
    else c1 (())
def laws_eqWireS.F (k : Nat) (x : ((List (Int × ((List Int) × (Int × ((List Int) × Unit))))) × ((List (Int × ((List Int) × (Int × ((List Int) × Unit))))) × Unit))) : Option ((Bool × Unit) × Unit) :=
  bif ((((List.length x.1) : Nat) : Int) != (((List.length x.2.1) : Nat) : Int)) then
  (some ((false, ()), ()))
  else laws_eqWireS.l4 k (fun e3 =>
      some (e3, ())) (fun e4 =>
      some ((true, ()), ())) k x.1 x.2.1 (0 : Int)
def laws_eqWireS.hd : Hints := ⟨[(4, ⟨[0, 1, 5], []⟩)], [(0, []), (1, [0, 1, 5])], [4], [0, 1, 5], [(6, [0, 0, 3, 7, 0, 0, 48, 112, 255, 511])]⟩
def laws_eqWireS.lps (k : Nat) : List (Nat × Lp laws_eqWireS.sg.Out) := [(4, ⟨[.l kWire, .l kWire, .i], fun x => (fun x0 x1 x2 => ⟨[(0, .v false [.fz kWire x0]), (1, .v false [.fz kWire x1]), (5, .v false [.int .i64 x2])], [], []⟩) x.1 x.2.1 x.2.2.1, fun C n x => laws_eqWireS.l4 k (fun y => C .ret ((fun y0 => ⟨[(4, .v false [.bool y0])], [], []⟩) y.1)) (fun _ => C (.exit 0) ⟨[], [], []⟩) n x.1 x.2.1 x.2.2.1⟩)]
theorem laws_eqWireS.loops (k : Nat) : LoopsOk laws_eqWireS.E k laws_eqWireS.hd (laws_eqWireS.lps k) (loopsOf (Go.Proofs.Try.f177.body.getD .skip)) := ⟨⟨fun _ _ => rfl, fun _ _ _ => by kernel_rfl, fun _ => ⟨rfl, rfl⟩⟩, trivial⟩
theorem laws_eqWireS.den (k : Nat) (x : Sig.In laws_eqWireS.sg.ps) : denFn laws_eqWireS.E k Go.Proofs.Try.f177 laws_eqWireS.sg laws_eqWireS.hd (runL k laws_eqWireS.hd (laws_eqWireS.lps k)) x = laws_eqWireS.F k x := by kernel_rfl
theorem laws_eqWireS.ok (k : Nat) : Contract Try.prog 177 laws_eqWireS.sg (laws_eqWireS.F k) := ok_of (E := laws_eqWireS.E) (tysOk _ _) (eqsOk _) ⟨laws_eqWire.ok k, trivial⟩ Try.func177 rfl (by kernel_rfl) (laws_eqWireS.loops k) (laws_eqWireS.den k)
def laws_eqPair.sg : Sig := ⟨[.b kPair, .b kPair], [(.bool, .rd)]⟩
def laws_eqPair.E : Env := ⟨tys, bys, [(58, ⟨laws_eqSettings.sg, laws_eqSettings.F⟩), (130, ⟨laws_eqMailS.sg, laws_eqMailS.F⟩), (131, ⟨laws_eqEntryS.sg, laws_eqEntryS.F⟩), (176, ⟨laws_eqNodeS.sg, laws_eqNodeS.F⟩), (177, ⟨laws_eqWireS.sg, laws_eqWireS.F⟩)], eqs⟩
def laws_eqPair.F (k : Nat) (x : ((((Int × (Int × (Int × Unit))) × (Int × ((List ((Int × (Int × Unit)) × (Int × (Int × (Int × (Bool × (Int × (Int × Unit)))))))) × ((List ((Int × (Int × Unit)) × (Int × (Int × (Int × (Bool × (Int × (Int × Unit)))))))) × Unit)))) × ((List (Int × (Bool × (Int × (Int × ((List (Int × ((Int × (Int × ((List Int) × Unit))) × Unit))) × (Int × (Int × (Int × (Int × Unit)))))))))) × ((List (Int × ((List Int) × (Int × ((List Int) × Unit))))) × ((List (Int × (Int × (Int × (Int × (Int × (Bool × ((Int × ((Int × (Int × ((List Int) × Unit))) × Unit)) × Unit)))))))) × ((List (Int × ((Int × (Int × ((List Int) × Unit))) × Unit))) × Unit))))) × ((((Int × (Int × (Int × Unit))) × (Int × ((List ((Int × (Int × Unit)) × (Int × (Int × (Int × (Bool × (Int × (Int × Unit)))))))) × ((List ((Int × (Int × Unit)) × (Int × (Int × (Int × (Bool × (Int × (Int × Unit)))))))) × Unit)))) × ((List (Int × (Bool × (Int × (Int × ((List (Int × ((Int × (Int × ((List Int) × Unit))) × Unit))) × (Int × (Int × (Int × (Int × Unit)))))))))) × ((List (Int × ((List Int) × (Int × ((List Int) × Unit))))) × ((List (Int × (Int × (Int × (Int × (Int × (Bool × ((Int × ((Int × (Int × ((List Int) × Unit))) × Unit)) × Unit)))))))) × ((List (Int × ((Int × (Int × ((List Int) × Unit))) × Unit))) × Unit))))) × Unit))) : Option ((Bool × Unit) × Unit) :=
  (laws_eqSettings.F k (x.1.1, x.2.1.1, ())).bind fun y0 =>
  bif (!y0.1.1) then
  (some ((false, ()), ()))
  else (laws_eqNodeS.F k (x.1.2.1, x.2.1.2.1, ())).bind fun y1 =>
    bif (!y1.1.1) then
    (some ((false, ()), ()))
    else (laws_eqWireS.F k (x.1.2.2.1, x.2.1.2.2.1, ())).bind fun y2 =>
      bif (!y2.1.1) then
      (some ((false, ()), ()))
      else (laws_eqMailS.F k (x.1.2.2.2.1, x.2.1.2.2.2.1, ())).bind fun y3 =>
        bif (!y3.1.1) then
        (some ((false, ()), ()))
        else (laws_eqEntryS.F k (x.1.2.2.2.2.1, x.2.1.2.2.2.2)).bind fun y4 =>
          bif (!y4.1.1) then
          (some ((false, ()), ()))
          else some ((true, ()), ())
def laws_eqPair.hd : Hints := ⟨[], [], [4], [0, 1, 2, 3], []⟩
def laws_eqPair.lps (k : Nat) : List (Nat × Lp laws_eqPair.sg.Out) := []
theorem laws_eqPair.loops (k : Nat) : LoopsOk laws_eqPair.E k laws_eqPair.hd (laws_eqPair.lps k) (loopsOf (Go.Proofs.Try.f74.body.getD .skip)) := trivial
theorem laws_eqPair.den (k : Nat) (x : Sig.In laws_eqPair.sg.ps) : denFn laws_eqPair.E k Go.Proofs.Try.f74 laws_eqPair.sg laws_eqPair.hd (runL k laws_eqPair.hd (laws_eqPair.lps k)) x = laws_eqPair.F k x := by kernel_rfl
theorem laws_eqPair.ok (k : Nat) : Contract Try.prog 74 laws_eqPair.sg (laws_eqPair.F k) := ok_of (E := laws_eqPair.E) (tysOk _ _) (eqsOk _) ⟨laws_eqSettings.ok k, laws_eqMailS.ok k, laws_eqEntryS.ok k, laws_eqNodeS.ok k, laws_eqWireS.ok k, trivial⟩ Try.func74 rfl (by kernel_rfl) (laws_eqPair.loops k) (laws_eqPair.den k)
def laws_szNodeS.sg : Sig := ⟨[.b (.sl kNode), .b (.int .i64)], [((.int .i64), .rd)]⟩
def laws_szNodeS.E : Env := ⟨tys, bys, [(30, ⟨laws_szNode.sg, laws_szNode.F⟩)], eqs⟩
def laws_szNodeS.l5 {ρ : Type} (k : Nat) (c0 : (Int × Unit) → Option ρ) (c1 : (Int × Unit) → Option ρ) : Nat → List (Int × (Bool × (Int × (Int × ((List (Int × ((Int × (Int × ((List Int) × Unit))) × Unit))) × (Int × (Int × (Int × (Int × Unit))))))))) → Int → Int → Option ρ
  | 0 => fun _ _ _ => none
  | n + 1 => fun x0 x1 x2 => 
    bif (decide ((x2 < (((List.length x0) : Nat) : Int)))) then
    (bif (Go.Dn.inB x2 (((List.length x0) : Nat) : Int)) then
      (Go.Dn.share (List.getD x0 (Int.toNat x2) ((0 : Int), (false, ((0 : Int), ((0 : Int), (([] : List (Int × ((Int × (Int × ((List Int) × Unit))) × Unit))), ((0 : Int), ((0 : Int), ((0 : Int), ((0 : Int), ())))))))))) fun s0 =>
        (laws_szNode.F k (s0, x1, ())).bind fun y1 =>
        bif (decide ((y1.1.1 < (0 : Int)))) then
        (c0 ((-(1 : Int)), ()))
        else laws_szNodeS.l5 k c0 c1 n x0 y1.1.1 (IntKind.wrap .i64 (x2 + (1 : Int))))
      else none)
    else c1 (x1, ())
def laws_szNodeS.F (k : Nat) (x : ((List (Int × (Bool × (Int × (Int × ((List (Int × ((Int × (Int × ((List Int) × Unit))) × Unit))) × (Int × (Int × (Int × (Int × Unit)))))))))) × (Int × Unit))) : Option ((Int × Unit) × Unit) :=
  bif (decide (((IntKind.wrap .i64 (x.2.1 - (((List.length x.1) : Nat) : Int))) < (0 : Int)))) then
  (some (((-(1 : Int)), ()), ()))
  else laws_szNodeS.l5 k (fun e2 =>
      some (e2, ())) (fun e3 =>
      some (e3, ())) k x.1 (IntKind.wrap .i64 (x.2.1 - (((List.length x.1) : Nat) : Int))) (0 : Int)
def laws_szNodeS.hd : Hints := ⟨[(5, ⟨[0, 1, 5], []⟩)], [(0, [1]), (1, [0, 1, 5])], [4], [0, 1, 5], []⟩
def laws_szNodeS.lps (k : Nat) : List (Nat × Lp laws_szNodeS.sg.Out) := [(5, ⟨[.l kNode, .i, .i], fun x => (fun x0 x1 x2 => ⟨[(0, .v false [.fz kNode x0]), (1, .v false [.int .i64 x1]), (5, .v false [.int .i64 x2])], [], []⟩) x.1 x.2.1 x.2.2.1, fun C n x => laws_szNodeS.l5 k (fun y => C .ret ((fun y0 => ⟨[(4, .v false [.int .i64 y0])], [], []⟩) y.1)) (fun y => C (.exit 0) ((fun y0 => ⟨[(1, .v false [.int .i64 y0])], [], []⟩) y.1)) n x.1 x.2.1 x.2.2.1⟩)]
theorem laws_szNodeS.loops (k : Nat) : LoopsOk laws_szNodeS.E k laws_szNodeS.hd (laws_szNodeS.lps k) (loopsOf (Go.Proofs.Try.f167.body.getD .skip)) := ⟨⟨fun _ _ => rfl, fun _ _ _ => by kernel_rfl, fun _ => ⟨rfl, rfl⟩⟩, trivial⟩
theorem laws_szNodeS.den (k : Nat) (x : Sig.In laws_szNodeS.sg.ps) : denFn laws_szNodeS.E k Go.Proofs.Try.f167 laws_szNodeS.sg laws_szNodeS.hd (runL k laws_szNodeS.hd (laws_szNodeS.lps k)) x = laws_szNodeS.F k x := by kernel_rfl
theorem laws_szNodeS.ok (k : Nat) : Contract Try.prog 167 laws_szNodeS.sg (laws_szNodeS.F k) := ok_of (E := laws_szNodeS.E) (tysOk _ _) (eqsOk _) ⟨laws_szNode.ok k, trivial⟩ Try.func167 rfl (by kernel_rfl) (laws_szNodeS.loops k) (laws_szNodeS.den k)
def laws_szWire.sg : Sig := ⟨[.b kWire, .b (.int .i64)], [((.int .i64), .rd)]⟩
def laws_szWire.E : Env := ⟨tys, bys, [(301, ⟨laws_szByteS.sg, laws_szByteS.F⟩)], eqs⟩
def laws_szWire.F (k : Nat) (x : ((Int × ((List Int) × (Int × ((List Int) × Unit)))) × (Int × Unit))) : Option ((Int × Unit) × Unit) :=
  (laws_szByteS.F k (x.1.2.1, x.2)).bind fun y0 =>
  bif (decide ((y0.1.1 < (0 : Int)))) then
  (some (((-(1 : Int)), ()), ()))
  else (laws_szByteS.F k (x.1.2.2.2.1, y0.1)).bind fun y1 =>
    bif (decide ((y1.1.1 < (0 : Int)))) then
    (some (((-(1 : Int)), ()), ()))
    else some y1
def laws_szWire.hd : Hints := ⟨[], [], [4], [0, 1, 2], []⟩
def laws_szWire.lps (k : Nat) : List (Nat × Lp laws_szWire.sg.Out) := []
theorem laws_szWire.loops (k : Nat) : LoopsOk laws_szWire.E k laws_szWire.hd (laws_szWire.lps k) (loopsOf (Go.Proofs.Try.f260.body.getD .skip)) := trivial
theorem laws_szWire.den (k : Nat) (x : Sig.In laws_szWire.sg.ps) : denFn laws_szWire.E k Go.Proofs.Try.f260 laws_szWire.sg laws_szWire.hd (runL k laws_szWire.hd (laws_szWire.lps k)) x = laws_szWire.F k x := by kernel_rfl
theorem laws_szWire.ok (k : Nat) : Contract Try.prog 260 laws_szWire.sg (laws_szWire.F k) := ok_of (E := laws_szWire.E) (tysOk _ _) (eqsOk _) ⟨laws_szByteS.ok k, trivial⟩ Try.func260 rfl (by kernel_rfl) (laws_szWire.loops k) (laws_szWire.den k)
def laws_szWireS.sg : Sig := ⟨[.b (.sl kWire), .b (.int .i64)], [((.int .i64), .rd)]⟩
def laws_szWireS.E : Env := ⟨tys, bys, [(260, ⟨laws_szWire.sg, laws_szWire.F⟩)], eqs⟩
def laws_szWireS.l5 {ρ : Type} (k : Nat) (c0 : (Int × Unit) → Option ρ) (c1 : (Int × Unit) → Option ρ) : Nat → List (Int × ((List Int) × (Int × ((List Int) × Unit)))) → Int → Int → Option ρ
  | 0 => fun _ _ _ => none
  | n + 1 => fun x0 x1 x2 => 
    bif (decide ((x2 < (((List.length x0) : Nat) : Int)))) then
    (bif (Go.Dn.inB x2 (((List.length x0) : Nat) : Int)) then
      (Go.Dn.share (List.getD x0 (Int.toNat x2) ((0 : Int), (([] : List Int), ((0 : Int), (([] : List Int), ()))))) fun s0 =>
        (laws_szWire.F k (s0, x1, ())).bind fun y1 =>
        bif (decide ((y1.1.1 < (0 : Int)))) then
        (c0 ((-(1 : Int)), ()))
        else laws_szWireS.l5 k c0 c1 n x0 y1.1.1 (IntKind.wrap .i64 (x2 + (1 : Int))))
      else none)
    else c1 (x1, ())
def laws_szWireS.F (k : Nat) (x : ((List (Int × ((List Int) × (Int × ((List Int) × Unit))))) × (Int × Unit))) : Option ((Int × Unit) × Unit) :=
  bif (decide (((IntKind.wrap .i64 (x.2.1 - (((List.length x.1) : Nat) : Int))) < (0 : Int)))) then
  (some (((-(1 : Int)), ()), ()))
  else laws_szWireS.l5 k (fun e2 =>
      some (e2, ())) (fun e3 =>
      some (e3, ())) k x.1 (IntKind.wrap .i64 (x.2.1 - (((List.length x.1) : Nat) : Int))) (0 : Int)
def laws_szWireS.hd : Hints := ⟨[(5, ⟨[0, 1, 5], []⟩)], [(0, [1]), (1, [0, 1, 5])], [4], [0, 1, 5], []⟩
def laws_szWireS.lps (k : Nat) : List (Nat × Lp laws_szWireS.sg.Out) := [(5, ⟨[.l kWire, .i, .i], fun x => (fun x0 x1 x2 => ⟨[(0, .v false [.fz kWire x0]), (1, .v false [.int .i64 x1]), (5, .v false [.int .i64 x2])], [], []⟩) x.1 x.2.1 x.2.2.1, fun C n x => laws_szWireS.l5 k (fun y => C .ret ((fun y0 => ⟨[(4, .v false [.int .i64 y0])], [], []⟩) y.1)) (fun y => C (.exit 0) ((fun y0 => ⟨[(1, .v false [.int .i64 y0])], [], []⟩) y.1)) n x.1 x.2.1 x.2.2.1⟩)]
theorem laws_szWireS.loops (k : Nat) : LoopsOk laws_szWireS.E k laws_szWireS.hd (laws_szWireS.lps k) (loopsOf (Go.Proofs.Try.f168.body.getD .skip)) := ⟨⟨fun _ _ => rfl, fun _ _ _ => by kernel_rfl, fun _ => ⟨rfl, rfl⟩⟩, trivial⟩
theorem laws_szWireS.den (k : Nat) (x : Sig.In laws_szWireS.sg.ps) : denFn laws_szWireS.E k Go.Proofs.Try.f168 laws_szWireS.sg laws_szWireS.hd (runL k laws_szWireS.hd (laws_szWireS.lps k)) x = laws_szWireS.F k x := by kernel_rfl
theorem laws_szWireS.ok (k : Nat) : Contract Try.prog 168 laws_szWireS.sg (laws_szWireS.F k) := ok_of (E := laws_szWireS.E) (tysOk _ _) (eqsOk _) ⟨laws_szWire.ok k, trivial⟩ Try.func168 rfl (by kernel_rfl) (laws_szWireS.loops k) (laws_szWireS.den k)
def laws_szMailS.sg : Sig := ⟨[.b (.sl kMail), .b (.int .i64)], [((.int .i64), .rd)]⟩
def laws_szMailS.E : Env := ⟨tys, bys, [(31, ⟨laws_szMail.sg, laws_szMail.F⟩)], eqs⟩
def laws_szMailS.l5 {ρ : Type} (k : Nat) (c0 : (Int × Unit) → Option ρ) (c1 : (Int × Unit) → Option ρ) : Nat → List (Int × (Int × (Int × (Int × (Int × (Bool × ((Int × ((Int × (Int × ((List Int) × Unit))) × Unit)) × Unit))))))) → Int → Int → Option ρ
  | 0 => fun _ _ _ => none
  | n + 1 => fun x0 x1 x2 => 
    bif (decide ((x2 < (((List.length x0) : Nat) : Int)))) then
    (bif (Go.Dn.inB x2 (((List.length x0) : Nat) : Int)) then
      (Go.Dn.share (List.getD x0 (Int.toNat x2) ((0 : Int), ((0 : Int), ((0 : Int), ((0 : Int), ((0 : Int), (false, (((0 : Int), (((0 : Int), ((0 : Int), (([] : List Int), ()))), ())), ())))))))) fun s0 =>
        (laws_szMail.F k (s0, x1, ())).bind fun y1 =>
        bif (decide ((y1.1.1 < (0 : Int)))) then
        (c0 ((-(1 : Int)), ()))
        else laws_szMailS.l5 k c0 c1 n x0 y1.1.1 (IntKind.wrap .i64 (x2 + (1 : Int))))
      else none)
    else c1 (x1, ())
def laws_szMailS.F (k : Nat) (x : ((List (Int × (Int × (Int × (Int × (Int × (Bool × ((Int × ((Int × (Int × ((List Int) × Unit))) × Unit)) × Unit)))))))) × (Int × Unit))) : Option ((Int × Unit) × Unit) :=
  bif (decide (((IntKind.wrap .i64 (x.2.1 - (((List.length x.1) : Nat) : Int))) < (0 : Int)))) then
  (some (((-(1 : Int)), ()), ()))
  else laws_szMailS.l5 k (fun e2 =>
      some (e2, ())) (fun e3 =>
      some (e3, ())) k x.1 (IntKind.wrap .i64 (x.2.1 - (((List.length x.1) : Nat) : Int))) (0 : Int)
def laws_szMailS.hd : Hints := ⟨[(5, ⟨[0, 1, 5], []⟩)], [(0, [1]), (1, [0, 1, 5])], [4], [0, 1, 5], []⟩
def laws_szMailS.lps (k : Nat) : List (Nat × Lp laws_szMailS.sg.Out) := [(5, ⟨[.l kMail, .i, .i], fun x => (fun x0 x1 x2 => ⟨[(0, .v false [.fz kMail x0]), (1, .v false [.int .i64 x1]), (5, .v false [.int .i64 x2])], [], []⟩) x.1 x.2.1 x.2.2.1, fun C n x => laws_szMailS.l5 k (fun y => C .ret ((fun y0 => ⟨[(4, .v false [.int .i64 y0])], [], []⟩) y.1)) (fun y => C (.exit 0) ((fun y0 => ⟨[(1, .v false [.int .i64 y0])], [], []⟩) y.1)) n x.1 x.2.1 x.2.2.1⟩)]
theorem laws_szMailS.loops (k : Nat) : LoopsOk laws_szMailS.E k laws_szMailS.hd (laws_szMailS.lps k) (loopsOf (Go.Proofs.Try.f169.body.getD .skip)) := ⟨⟨fun _ _ => rfl, fun _ _ _ => by kernel_rfl, fun _ => ⟨rfl, rfl⟩⟩, trivial⟩
theorem laws_szMailS.den (k : Nat) (x : Sig.In laws_szMailS.sg.ps) : denFn laws_szMailS.E k Go.Proofs.Try.f169 laws_szMailS.sg laws_szMailS.hd (runL k laws_szMailS.hd (laws_szMailS.lps k)) x = laws_szMailS.F k x := by kernel_rfl
theorem laws_szMailS.ok (k : Nat) : Contract Try.prog 169 laws_szMailS.sg (laws_szMailS.F k) := ok_of (E := laws_szMailS.E) (tysOk _ _) (eqsOk _) ⟨laws_szMail.ok k, trivial⟩ Try.func169 rfl (by kernel_rfl) (laws_szMailS.loops k) (laws_szMailS.den k)
def laws_szPair.sg : Sig := ⟨[.b kPair, .b (.int .i64)], [((.int .i64), .rd)]⟩
def laws_szPair.E : Env := ⟨tys, bys, [(53, ⟨laws_szSettings.sg, laws_szSettings.F⟩), (126, ⟨laws_szEntryS.sg, laws_szEntryS.F⟩), (167, ⟨laws_szNodeS.sg, laws_szNodeS.F⟩), (168, ⟨laws_szWireS.sg, laws_szWireS.F⟩), (169, ⟨laws_szMailS.sg, laws_szMailS.F⟩)], eqs⟩
def laws_szPair.F (k : Nat) (x : ((((Int × (Int × (Int × Unit))) × (Int × ((List ((Int × (Int × Unit)) × (Int × (Int × (Int × (Bool × (Int × (Int × Unit)))))))) × ((List ((Int × (Int × Unit)) × (Int × (Int × (Int × (Bool × (Int × (Int × Unit)))))))) × Unit)))) × ((List (Int × (Bool × (Int × (Int × ((List (Int × ((Int × (Int × ((List Int) × Unit))) × Unit))) × (Int × (Int × (Int × (Int × Unit)))))))))) × ((List (Int × ((List Int) × (Int × ((List Int) × Unit))))) × ((List (Int × (Int × (Int × (Int × (Int × (Bool × ((Int × ((Int × (Int × ((List Int) × Unit))) × Unit)) × Unit)))))))) × ((List (Int × ((Int × (Int × ((List Int) × Unit))) × Unit))) × Unit))))) × (Int × Unit))) : Option ((Int × Unit) × Unit) :=
  (laws_szSettings.F k (x.1.1, x.2)).bind fun y0 =>
  bif (decide ((y0.1.1 < (0 : Int)))) then
  (some (((-(1 : Int)), ()), ()))
  else (laws_szNodeS.F k (x.1.2.1, y0.1)).bind fun y1 =>
    bif (decide ((y1.1.1 < (0 : Int)))) then
    (some (((-(1 : Int)), ()), ()))
    else (laws_szWireS.F k (x.1.2.2.1, y1.1)).bind fun y2 =>
      bif (decide ((y2.1.1 < (0 : Int)))) then
      (some (((-(1 : Int)), ()), ()))
      else (laws_szMailS.F k (x.1.2.2.2.1, y2.1)).bind fun y3 =>
        bif (decide ((y3.1.1 < (0 : Int)))) then
        (some (((-(1 : Int)), ()), ()))
        else (laws_szEntryS.F k (x.1.2.2.2.2.1, y3.1)).bind fun y4 =>
          bif (decide ((y4.1.1 < (0 : Int)))) then
          (some (((-(1 : Int)), ()), ()))
          else some y4
def laws_szPair.hd : Hints := ⟨[], [], [4], [0, 1, 2], []⟩
def laws_szPair.lps (k : Nat) : List (Nat × Lp laws_szPair.sg.Out) := []
theorem laws_szPair.loops (k : Nat) : LoopsOk laws_szPair.E k laws_szPair.hd (laws_szPair.lps k) (loopsOf (Go.Proofs.Try.f70.body.getD .skip)) := trivial
theorem laws_szPair.den (k : Nat) (x : Sig.In laws_szPair.sg.ps) : denFn laws_szPair.E k Go.Proofs.Try.f70 laws_szPair.sg laws_szPair.hd (runL k laws_szPair.hd (laws_szPair.lps k)) x = laws_szPair.F k x := by kernel_rfl
theorem laws_szPair.ok (k : Nat) : Contract Try.prog 70 laws_szPair.sg (laws_szPair.F k) := ok_of (E := laws_szPair.E) (tysOk _ _) (eqsOk _) ⟨laws_szSettings.ok k, laws_szEntryS.ok k, laws_szNodeS.ok k, laws_szWireS.ok k, laws_szMailS.ok k, trivial⟩ Try.func70 rfl (by kernel_rfl) (laws_szPair.loops k) (laws_szPair.den k)
def spec_l14Nodes.sg : Sig := ⟨[.r kPair], [((.int .i64), .rd)]⟩
def spec_l14Nodes.E : Env := ⟨tys, bys, [(210, ⟨spec_l12Fault.sg, spec_l12Fault.F⟩)], eqs⟩
def spec_l14Nodes.l2 {ρ : Type} (k : Nat) (c0 : (Int × Unit) → Option ρ) (c1 : Unit → Option ρ) : Nat → (((Int × (Int × (Int × Unit))) × (Int × ((List ((Int × (Int × Unit)) × (Int × (Int × (Int × (Bool × (Int × (Int × Unit)))))))) × ((List ((Int × (Int × Unit)) × (Int × (Int × (Int × (Bool × (Int × (Int × Unit)))))))) × Unit)))) × ((List (Int × (Bool × (Int × (Int × ((List (Int × ((Int × (Int × ((List Int) × Unit))) × Unit))) × (Int × (Int × (Int × (Int × Unit)))))))))) × ((List (Int × ((List Int) × (Int × ((List Int) × Unit))))) × ((List (Int × (Int × (Int × (Int × (Int × (Bool × ((Int × ((Int × (Int × ((List Int) × Unit))) × Unit)) × Unit)))))))) × ((List (Int × ((Int × (Int × ((List Int) × Unit))) × Unit))) × Unit))))) → Int → Option ρ
  | 0 => fun _ _ => none
  | n + 1 => fun x0 x1 => 
    bif (decide ((x1 < (2 : Int)))) then
    (bif (Go.Dn.inB x1 (((List.length x0.2.1) : Nat) : Int)) then
      (Go.Dn.share (List.getD x0.2.1 (Int.toNat x1) ((0 : Int), (false, ((0 : Int), ((0 : Int), (([] : List (Int × ((Int × (Int × ((List Int) × Unit))) × Unit))), ((0 : Int), ((0 : Int), ((0 : Int), ((0 : Int), ())))))))))) fun s0 =>
        (spec_l12Fault.F k (s0, ())).bind fun y1 =>
        bif (y1.1.1 != (0 : Int)) then
        (c0 (y1.1.1, ()))
        else bif (Go.Dn.inB x1 (((List.length x0.2.1) : Nat) : Int)) then
          (Go.Dn.share (List.getD x0.2.1 (Int.toNat x1) ((0 : Int), (false, ((0 : Int), ((0 : Int), (([] : List (Int × ((Int × (Int × ((List Int) × Unit))) × Unit))), ((0 : Int), ((0 : Int), ((0 : Int), ((0 : Int), ())))))))))) fun s2 =>
            bif (s2.1 != x1) then
            (c0 ((1 : Int), ()))
            else spec_l14Nodes.l2 k c0 c1 n x0 (IntKind.wrap .i64 (x1 + (1 : Int))))
          else none)
      else none)
    else c1 (())
def spec_l14Nodes.F (k : Nat) (x : ((((Int × (Int × (Int × Unit))) × (Int × ((List ((Int × (Int × Unit)) × (Int × (Int × (Int × (Bool × (Int × (Int × Unit)))))))) × ((List ((Int × (Int × Unit)) × (Int × (Int × (Int × (Bool × (Int × (Int × Unit)))))))) × Unit)))) × ((List (Int × (Bool × (Int × (Int × ((List (Int × ((Int × (Int × ((List Int) × Unit))) × Unit))) × (Int × (Int × (Int × (Int × Unit)))))))))) × ((List (Int × ((List Int) × (Int × ((List Int) × Unit))))) × ((List (Int × (Int × (Int × (Int × (Int × (Bool × ((Int × ((Int × (Int × ((List Int) × Unit))) × Unit)) × Unit)))))))) × ((List (Int × ((Int × (Int × ((List Int) × Unit))) × Unit))) × Unit))))) × Unit)) : Option ((Int × Unit) × Unit) :=
  spec_l14Nodes.l2 k (fun e3 =>
    some (e3, ())) (fun e4 =>
    some (((0 : Int), ()), ())) k x.1 (0 : Int)
def spec_l14Nodes.hd : Hints := ⟨[(2, ⟨[0, 3], []⟩)], [(0, []), (1, [0, 3])], [2], [0, 3, 4], []⟩
def spec_l14Nodes.lps (k : Nat) : List (Nat × Lp spec_l14Nodes.sg.Out) := [(2, ⟨[.x kPair, .i], fun x => (fun x0 x1 => ⟨[(0, .v false [.fel kPair x0 0]), (3, .v false [.int .i64 x1])], [], []⟩) x.1 x.2.1, fun C n x => spec_l14Nodes.l2 k (fun y => C .ret ((fun y0 => ⟨[(2, .v false [.int .i64 y0])], [], []⟩) y.1)) (fun _ => C (.exit 0) ⟨[], [], []⟩) n x.1 x.2.1⟩)]
theorem spec_l14Nodes.loops (k : Nat) : LoopsOk spec_l14Nodes.E k spec_l14Nodes.hd (spec_l14Nodes.lps k) (loopsOf (Go.Proofs.Try.f261.body.getD .skip)) := ⟨⟨fun _ _ => rfl, fun _ _ _ => by kernel_rfl, fun _ => ⟨rfl, rfl⟩⟩, trivial⟩
theorem spec_l14Nodes.den (k : Nat) (x : Sig.In spec_l14Nodes.sg.ps) : denFn spec_l14Nodes.E k Go.Proofs.Try.f261 spec_l14Nodes.sg spec_l14Nodes.hd (runL k spec_l14Nodes.hd (spec_l14Nodes.lps k)) x = spec_l14Nodes.F k x := by kernel_rfl
theorem spec_l14Nodes.ok (k : Nat) : Contract Try.prog 261 spec_l14Nodes.sg (spec_l14Nodes.F k) := ok_of (E := spec_l14Nodes.E) (tysOk _ _) (eqsOk _) ⟨spec_l12Fault.ok k, trivial⟩ Try.func261 rfl (by kernel_rfl) (spec_l14Nodes.loops k) (spec_l14Nodes.den k)
def spec_WireFault.sg : Sig := ⟨[.b kWire], [((.int .i64), .rd)]⟩
def spec_WireFault.E : Env := ⟨tys, bys, [(121, ⟨spec_l1In.sg, spec_l1In.F⟩)], eqs⟩
def spec_WireFault.F (k : Nat) (x : ((Int × ((List Int) × (Int × ((List Int) × Unit)))) × Unit)) : Option ((Int × Unit) × Unit) :=
  (spec_l1In.F k (x.1.1, (0 : Int), (1000 : Int), ())).bind fun y0 =>
  bif (!y0.1.1) then
  (some (((3 : Int), ()), ()))
  else bif (decide (((((List.length x.1.2.1) : Nat) : Int) > (2000 : Int)))) then
    (some (((2 : Int), ()), ()))
    else bif (decide (((((List.length x.1.2.2.2.1) : Nat) : Int) > (2000 : Int)))) then
      (some (((2 : Int), ()), ()))
      else (spec_l1In.F k (x.1.2.2.1, (0 : Int), (((List.length x.1.2.1) : Nat) : Int), ())).bind fun y1 =>
        bif (!y1.1.1) then
        (some (((3 : Int), ()), ()))
        else some (((0 : Int), ()), ())
def spec_WireFault.hd : Hints := ⟨[], [], [2], [0, 1], []⟩
def spec_WireFault.lps (k : Nat) : List (Nat × Lp spec_WireFault.sg.Out) := []
theorem spec_WireFault.loops (k : Nat) : LoopsOk spec_WireFault.E k spec_WireFault.hd (spec_WireFault.lps k) (loopsOf (Go.Proofs.Try.f262.body.getD .skip)) := trivial
theorem spec_WireFault.den (k : Nat) (x : Sig.In spec_WireFault.sg.ps) : denFn spec_WireFault.E k Go.Proofs.Try.f262 spec_WireFault.sg spec_WireFault.hd (runL k spec_WireFault.hd (spec_WireFault.lps k)) x = spec_WireFault.F k x := by kernel_rfl
theorem spec_WireFault.ok (k : Nat) : Contract Try.prog 262 spec_WireFault.sg (spec_WireFault.F k) := ok_of (E := spec_WireFault.E) (tysOk _ _) (eqsOk _) ⟨spec_l1In.ok k, trivial⟩ Try.func262 rfl (by kernel_rfl) (spec_WireFault.loops k) (spec_WireFault.den k)
def spec_l14Mails.sg : Sig := ⟨[.r kPair], [((.int .i64), .rd)]⟩
def spec_l14Mails.E : Env := ⟨tys, bys, [(99, ⟨spec_l12Mail.sg, spec_l12Mail.F⟩), (121, ⟨spec_l1In.sg, spec_l1In.F⟩)], eqs⟩
def spec_l14Mails.l4 {ρ : Type} (k : Nat) (c0 : (Int × Unit) → Option ρ) (c1 : Unit → Option ρ) : Nat → (((Int × (Int × (Int × Unit))) × (Int × ((List ((Int × (Int × Unit)) × (Int × (Int × (Int × (Bool × (Int × (Int × Unit)))))))) × ((List ((Int × (Int × Unit)) × (Int × (Int × (Int × (Bool × (Int × (Int × Unit)))))))) × Unit)))) × ((List (Int × (Bool × (Int × (Int × ((List (Int × ((Int × (Int × ((List Int) × Unit))) × Unit))) × (Int × (Int × (Int × (Int × Unit)))))))))) × ((List (Int × ((List Int) × (Int × ((List Int) × Unit))))) × ((List (Int × (Int × (Int × (Int × (Int × (Bool × ((Int × ((Int × (Int × ((List Int) × Unit))) × Unit)) × Unit)))))))) × ((List (Int × ((Int × (Int × ((List Int) × Unit))) × Unit))) × Unit))))) → Int → Option ρ
  | 0 => fun _ _ => none
  | n + 1 => fun x0 x1 => 
    bif (decide ((x1 < (((List.length x0.2.2.2.1) : Nat) : Int)))) then
    (bif (Go.Dn.inB x1 (((List.length x0.2.2.2.1) : Nat) : Int)) then
      (Go.Dn.share (List.getD x0.2.2.2.1 (Int.toNat x1) ((0 : Int), ((0 : Int), ((0 : Int), ((0 : Int), ((0 : Int), (false, (((0 : Int), (((0 : Int), ((0 : Int), (([] : List Int), ()))), ())), ())))))))) fun s0 =>
        (spec_l1In.F k (s0.2.1, (0 : Int), (1 : Int), ())).bind fun y1 =>
        bif (!y1.1.1) then
        (c0 ((1 : Int), ()))
        else bif (Go.Dn.inB x1 (((List.length x0.2.2.2.1) : Nat) : Int)) then
          (Go.Dn.share (List.getD x0.2.2.2.1 (Int.toNat x1) ((0 : Int), ((0 : Int), ((0 : Int), ((0 : Int), ((0 : Int), (false, (((0 : Int), (((0 : Int), ((0 : Int), (([] : List Int), ()))), ())), ())))))))) fun s2 =>
            bif (Go.Dn.inB s2.2.1 (((List.length x0.2.1) : Nat) : Int)) then
            (Go.Dn.share (List.getD x0.2.1 (Int.toNat s2.2.1) ((0 : Int), (false, ((0 : Int), ((0 : Int), (([] : List (Int × ((Int × (Int × ((List Int) × Unit))) × Unit))), ((0 : Int), ((0 : Int), ((0 : Int), ((0 : Int), ())))))))))) fun s3 =>
              bif (Go.Dn.inB x1 (((List.length x0.2.2.2.1) : Nat) : Int)) then
              (Go.Dn.share (List.getD x0.2.2.2.1 (Int.toNat x1) ((0 : Int), ((0 : Int), ((0 : Int), ((0 : Int), ((0 : Int), (false, (((0 : Int), (((0 : Int), ((0 : Int), (([] : List Int), ()))), ())), ())))))))) fun s4 =>
                (spec_l12Mail.F k (s3, s4, ())).bind fun y5 =>
                bif (y5.1.1 != (0 : Int)) then
                (c0 (y5.1.1, ()))
                else spec_l14Mails.l4 k c0 c1 n x0 (IntKind.wrap .i64 (x1 + (1 : Int))))
              else none)
            else none)
          else none)
      else none)
    else c1 (())
def spec_l14Mails.F (k : Nat) (x : ((((Int × (Int × (Int × Unit))) × (Int × ((List ((Int × (Int × Unit)) × (Int × (Int × (Int × (Bool × (Int × (Int × Unit)))))))) × ((List ((Int × (Int × Unit)) × (Int × (Int × (Int × (Bool × (Int × (Int × Unit)))))))) × Unit)))) × ((List (Int × (Bool × (Int × (Int × ((List (Int × ((Int × (Int × ((List Int) × Unit))) × Unit))) × (Int × (Int × (Int × (Int × Unit)))))))))) × ((List (Int × ((List Int) × (Int × ((List Int) × Unit))))) × ((List (Int × (Int × (Int × (Int × (Int × (Bool × ((Int × ((Int × (Int × ((List Int) × Unit))) × Unit)) × Unit)))))))) × ((List (Int × ((Int × (Int × ((List Int) × Unit))) × Unit))) × Unit))))) × Unit)) : Option ((Int × Unit) × Unit) :=
  bif (decide (((((List.length x.1.2.2.2.1) : Nat) : Int) > (40 : Int)))) then
  (some (((2 : Int), ()), ()))
  else spec_l14Mails.l4 k (fun e6 =>
      some (e6, ())) (fun e7 =>
      some (((0 : Int), ()), ())) k x.1 (0 : Int)
def spec_l14Mails.hd : Hints := ⟨[(4, ⟨[0, 3], []⟩)], [(0, []), (1, [0, 3])], [2], [0, 3, 4], [(8, [0, 1, 3, 7, 0, 16, 48, 112, 0, 496, 1008, 2032, 4095, 0, 8192, 24576, 57344, 0, 253952, 516096, 1048575, 2097151])]⟩
def spec_l14Mails.lps (k : Nat) : List (Nat × Lp spec_l14Mails.sg.Out) := [(4, ⟨[.x kPair, .i], fun x => (fun x0 x1 => ⟨[(0, .v false [.fel kPair x0 0]), (3, .v false [.int .i64 x1])], [], []⟩) x.1 x.2.1, fun C n x => spec_l14Mails.l4 k (fun y => C .ret ((fun y0 => ⟨[(2, .v false [.int .i64 y0])], [], []⟩) y.1)) (fun _ => C (.exit 0) ⟨[], [], []⟩) n x.1 x.2.1⟩)]
theorem spec_l14Mails.loops (k : Nat) : LoopsOk spec_l14Mails.E k spec_l14Mails.hd (spec_l14Mails.lps k) (loopsOf (Go.Proofs.Try.f263.body.getD .skip)) := ⟨⟨fun _ _ => rfl, fun _ _ _ => by kernel_rfl, fun _ => ⟨rfl, rfl⟩⟩, trivial⟩
theorem spec_l14Mails.den (k : Nat) (x : Sig.In spec_l14Mails.sg.ps) : denFn spec_l14Mails.E k Go.Proofs.Try.f263 spec_l14Mails.sg spec_l14Mails.hd (runL k spec_l14Mails.hd (spec_l14Mails.lps k)) x = spec_l14Mails.F k x := by kernel_rfl
theorem spec_l14Mails.ok (k : Nat) : Contract Try.prog 263 spec_l14Mails.sg (spec_l14Mails.F k) := ok_of (E := spec_l14Mails.E) (tysOk _ _) (eqsOk _) ⟨spec_l12Mail.ok k, spec_l1In.ok k, trivial⟩ Try.func263 rfl (by kernel_rfl) (spec_l14Mails.loops k) (spec_l14Mails.den k)
def spec_l14Fault.sg : Sig := ⟨[.r kPair], [((.int .i64), .rd)]⟩
def spec_l14Fault.E : Env := ⟨tys, bys, [(150, ⟨spec_SettingsFault.sg, spec_SettingsFault.F⟩), (213, ⟨spec_EntryFault.sg, spec_EntryFault.F⟩), (261, ⟨spec_l14Nodes.sg, spec_l14Nodes.F⟩), (262, ⟨spec_WireFault.sg, spec_WireFault.F⟩), (263, ⟨spec_l14Mails.sg, spec_l14Mails.F⟩)], eqs⟩
def spec_l14Fault.l10 {ρ : Type} (k : Nat) (c0 : (Int × Unit) → Option ρ) (c1 : ((((Int × (Int × (Int × Unit))) × (Int × ((List ((Int × (Int × Unit)) × (Int × (Int × (Int × (Bool × (Int × (Int × Unit)))))))) × ((List ((Int × (Int × Unit)) × (Int × (Int × (Int × (Bool × (Int × (Int × Unit)))))))) × Unit)))) × ((List (Int × (Bool × (Int × (Int × ((List (Int × ((Int × (Int × ((List Int) × Unit))) × Unit))) × (Int × (Int × (Int × (Int × Unit)))))))))) × ((List (Int × ((List Int) × (Int × ((List Int) × Unit))))) × ((List (Int × (Int × (Int × (Int × (Int × (Bool × ((Int × ((Int × (Int × ((List Int) × Unit))) × Unit)) × Unit)))))))) × ((List (Int × ((Int × (Int × ((List Int) × Unit))) × Unit))) × Unit))))) × Unit) → Option ρ) : Nat → (((Int × (Int × (Int × Unit))) × (Int × ((List ((Int × (Int × Unit)) × (Int × (Int × (Int × (Bool × (Int × (Int × Unit)))))))) × ((List ((Int × (Int × Unit)) × (Int × (Int × (Int × (Bool × (Int × (Int × Unit)))))))) × Unit)))) × ((List (Int × (Bool × (Int × (Int × ((List (Int × ((Int × (Int × ((List Int) × Unit))) × Unit))) × (Int × (Int × (Int × (Int × Unit)))))))))) × ((List (Int × ((List Int) × (Int × ((List Int) × Unit))))) × ((List (Int × (Int × (Int × (Int × (Int × (Bool × ((Int × ((Int × (Int × ((List Int) × Unit))) × Unit)) × Unit)))))))) × ((List (Int × ((Int × (Int × ((List Int) × Unit))) × Unit))) × Unit))))) → Int → Option ρ
  | 0 => fun _ _ => none
  | n + 1 => fun x0 x1 => 
    bif (decide ((x1 < (((List.length x0.2.2.1) : Nat) : Int)))) then
    (bif (Go.Dn.inB x1 (((List.length x0.2.2.1) : Nat) : Int)) then
      (Go.Dn.share (List.getD x0.2.2.1 (Int.toNat x1) ((0 : Int), (([] : List Int), ((0 : Int), (([] : List Int), ()))))) fun s2 =>
        (spec_WireFault.F k (s2, ())).bind fun y3 =>
        bif (y3.1.1 != (0 : Int)) then
        (c0 (y3.1.1, ()))
        else spec_l14Fault.l10 k c0 c1 n x0 (IntKind.wrap .i64 (x1 + (1 : Int))))
      else none)
    else c1 (x0, ())
def spec_l14Fault.l21 {ρ : Type} (k : Nat) (c0 : (Int × Unit) → Option ρ) (c1 : Unit → Option ρ) : Nat → (((Int × (Int × (Int × Unit))) × (Int × ((List ((Int × (Int × Unit)) × (Int × (Int × (Int × (Bool × (Int × (Int × Unit)))))))) × ((List ((Int × (Int × Unit)) × (Int × (Int × (Int × (Bool × (Int × (Int × Unit)))))))) × Unit)))) × ((List (Int × (Bool × (Int × (Int × ((List (Int × ((Int × (Int × ((List Int) × Unit))) × Unit))) × (Int × (Int × (Int × (Int × Unit)))))))))) × ((List (Int × ((List Int) × (Int × ((List Int) × Unit))))) × ((List (Int × (Int × (Int × (Int × (Int × (Bool × ((Int × ((Int × (Int × ((List Int) × Unit))) × Unit)) × Unit)))))))) × ((List (Int × ((Int × (Int × ((List Int) × Unit))) × Unit))) × Unit))))) → Int → Option ρ
  | 0 => fun _ _ => none
  | n + 1 => fun x0 x1 => 
    bif (decide ((x1 < (((List.length x0.2.2.2.2.1) : Nat) : Int)))) then
    (bif (Go.Dn.inB x1 (((List.length x0.2.2.2.2.1) : Nat) : Int)) then
      (Go.Dn.share (List.getD x0.2.2.2.2.1 (Int.toNat x1) ((0 : Int), (((0 : Int), ((0 : Int), (([] : List Int), ()))), ()))) fun s7 =>
        (spec_EntryFault.F k (s7, ())).bind fun y8 =>
        bif (y8.1.1 != (0 : Int)) then
        (c0 (y8.1.1, ()))
        else spec_l14Fault.l21 k c0 c1 n x0 (IntKind.wrap .i64 (x1 + (1 : Int))))
      else none)
    else c1 (())
def spec_l14Fault.F (k : Nat) (x : ((((Int × (Int × (Int × Unit))) × (Int × ((List ((Int × (Int × Unit)) × (Int × (Int × (Int × (Bool × (Int × (Int × Unit)))))))) × ((List ((Int × (Int × Unit)) × (Int × (Int × (Int × (Bool × (Int × (Int × Unit)))))))) × Unit)))) × ((List (Int × (Bool × (Int × (Int × ((List (Int × ((Int × (Int × ((List Int) × Unit))) × Unit))) × (Int × (Int × (Int × (Int × Unit)))))))))) × ((List (Int × ((List Int) × (Int × ((List Int) × Unit))))) × ((List (Int × (Int × (Int × (Int × (Int × (Bool × ((Int × ((Int × (Int × ((List Int) × Unit))) × Unit)) × Unit)))))))) × ((List (Int × ((Int × (Int × ((List Int) × Unit))) × Unit))) × Unit))))) × Unit)) : Option ((Int × Unit) × Unit) :=
  (spec_SettingsFault.F k (x.1.1, ())).bind fun y0 =>
  bif (y0.1.1 != (0 : Int)) then
  (some y0)
  else bif ((((List.length x.1.2.1) : Nat) : Int) != (2 : Int)) then
    (some (((1 : Int), ()), ()))
    else bif ((((List.length x.1.2.2.1) : Nat) : Int) != (3 : Int)) then
      (some (((1 : Int), ()), ()))
      else (spec_l14Nodes.F k x).bind fun y1 =>
        bif (y1.1.1 != (0 : Int)) then
        (some y1)
        else spec_l14Fault.l10 k (fun e4 =>
            some (e4, ())) (fun e5 =>
            (spec_l14Mails.F k e5).bind fun y6 =>
            bif (y6.1.1 != (0 : Int)) then
            (some y6)
            else bif (decide (((((List.length e5.1.2.2.2.2.1) : Nat) : Int) > (100 : Int)))) then
              (some (((2 : Int), ()), ()))
              else spec_l14Fault.l21 k (fun e9 =>
                  some (e9, ())) (fun e10 =>
                  some (((0 : Int), ()), ())) k e5.1 (0 : Int)) k x.1 (0 : Int)
def spec_l14Fault.hd : Hints := ⟨[(10, ⟨[0, 5], []⟩), (21, ⟨[0, 8], []⟩)], [(0, [0]), (1, [0, 5]), (2, []), (3, [0, 8])], [2], [0, 3, 4, 5, 6, 7, 8, 9], []⟩
def spec_l14Fault.lps (k : Nat) : List (Nat × Lp spec_l14Fault.sg.Out) := [(10, ⟨[.x kPair, .i], fun x => (fun x0 x1 => ⟨[(0, .v false [.fel kPair x0 0]), (5, .v false [.int .i64 x1])], [], []⟩) x.1 x.2.1, fun C n x => spec_l14Fault.l10 k (fun y => C .ret ((fun y0 => ⟨[(2, .v false [.int .i64 y0])], [], []⟩) y.1)) (fun y => C (.exit 0) ((fun y0 => ⟨[(0, .v false [.fel kPair y0 0])], [], []⟩) y.1)) n x.1 x.2.1⟩),
  (21, ⟨[.x kPair, .i], fun x => (fun x0 x1 => ⟨[(0, .v false [.fel kPair x0 0]), (8, .v false [.int .i64 x1])], [], []⟩) x.1 x.2.1, fun C n x => spec_l14Fault.l21 k (fun y => C .ret ((fun y0 => ⟨[(2, .v false [.int .i64 y0])], [], []⟩) y.1)) (fun _ => C (.exit 2) ⟨[], [], []⟩) n x.1 x.2.1⟩)]
theorem spec_l14Fault.loops (k : Nat) : LoopsOk spec_l14Fault.E k spec_l14Fault.hd (spec_l14Fault.lps k) (loopsOf (Go.Proofs.Try.f170.body.getD .skip)) := ⟨⟨fun _ _ => rfl, fun _ _ _ => by kernel_rfl, fun _ => ⟨rfl, rfl⟩⟩, ⟨⟨fun _ _ => rfl, fun _ _ _ => by kernel_rfl, fun _ => ⟨rfl, rfl⟩⟩, trivial⟩⟩
theorem spec_l14Fault.den (k : Nat) (x : Sig.In spec_l14Fault.sg.ps) : denFn spec_l14Fault.E k Go.Proofs.Try.f170 spec_l14Fault.sg spec_l14Fault.hd (runL k spec_l14Fault.hd (spec_l14Fault.lps k)) x = spec_l14Fault.F k x := by kernel_rfl
theorem spec_l14Fault.ok (k : Nat) : Contract Try.prog 170 spec_l14Fault.sg (spec_l14Fault.F k) := ok_of (E := spec_l14Fault.E) (tysOk _ _) (eqsOk _) ⟨spec_SettingsFault.ok k, spec_EntryFault.ok k, spec_l14Nodes.ok k, spec_WireFault.ok k, spec_l14Mails.ok k, trivial⟩ Try.func170 rfl (by kernel_rfl) (spec_l14Fault.loops k) (spec_l14Fault.den k)
def spec_PairFault.sg : Sig := ⟨[.b kPair], [((.int .i64), .rd)]⟩
def spec_PairFault.E : Env := ⟨tys, bys, [(170, ⟨spec_l14Fault.sg, spec_l14Fault.F⟩)], eqs⟩
def spec_PairFault.F (k : Nat) (x : ((((Int × (Int × (Int × Unit))) × (Int × ((List ((Int × (Int × Unit)) × (Int × (Int × (Int × (Bool × (Int × (Int × Unit)))))))) × ((List ((Int × (Int × Unit)) × (Int × (Int × (Int × (Bool × (Int × (Int × Unit)))))))) × Unit)))) × ((List (Int × (Bool × (Int × (Int × ((List (Int × ((Int × (Int × ((List Int) × Unit))) × Unit))) × (Int × (Int × (Int × (Int × Unit)))))))))) × ((List (Int × ((List Int) × (Int × ((List Int) × Unit))))) × ((List (Int × (Int × (Int × (Int × (Int × (Bool × ((Int × ((Int × (Int × ((List Int) × Unit))) × Unit)) × Unit)))))))) × ((List (Int × ((Int × (Int × ((List Int) × Unit))) × Unit))) × Unit))))) × Unit)) : Option ((Int × Unit) × Unit) :=
  (spec_l14Fault.F k x).bind fun y0 =>
  some y0
def spec_PairFault.hd : Hints := ⟨[], [], [2], [0, 1], []⟩
def spec_PairFault.lps (k : Nat) : List (Nat × Lp spec_PairFault.sg.Out) := []
theorem spec_PairFault.loops (k : Nat) : LoopsOk spec_PairFault.E k spec_PairFault.hd (spec_PairFault.lps k) (loopsOf (Go.Proofs.Try.f71.body.getD .skip)) := trivial
theorem spec_PairFault.den (k : Nat) (x : Sig.In spec_PairFault.sg.ps) : denFn spec_PairFault.E k Go.Proofs.Try.f71 spec_PairFault.sg spec_PairFault.hd (runL k spec_PairFault.hd (spec_PairFault.lps k)) x = spec_PairFault.F k x := by kernel_rfl
theorem spec_PairFault.ok (k : Nat) : Contract Try.prog 71 spec_PairFault.sg (spec_PairFault.F k) := ok_of (E := spec_PairFault.E) (tysOk _ _) (eqsOk _) ⟨spec_l14Fault.ok k, trivial⟩ Try.func71 rfl (by kernel_rfl) (spec_PairFault.loops k) (spec_PairFault.den k)
def laws_toNodeS.sg : Sig := ⟨[.b (.sl kNode)], [((.sl kNode), .dp)]⟩
def laws_toNodeS.E : Env := ⟨tys, bys, [(32, ⟨laws_toNode.sg, laws_toNode.F⟩)], eqs⟩
def laws_toNodeS.l3 {ρ : Type} (k : Nat) (c0 : (List (Int × (Bool × (Int × (Int × ((List (Int × ((Int × (Int × ((List Int) × Unit))) × Unit))) × (Int × (Int × (Int × (Int × Unit))))))))) × Unit) → Option ρ) : Nat → List (Int × (Bool × (Int × (Int × ((List (Int × ((Int × (Int × ((List Int) × Unit))) × Unit))) × (Int × (Int × (Int × (Int × Unit))))))))) → Int → List (Int × (Bool × (Int × (Int × ((List (Int × ((Int × (Int × ((List Int) × Unit))) × Unit))) × (Int × (Int × (Int × (Int × Unit))))))))) → Option ρ
  | 0 => fun _ _ _ => none
  | n + 1 => fun x0 x1 x2 => 
    bif (decide ((x1 < (((List.length x0) : Nat) : Int)))) then
    (bif (Go.Dn.inB x1 (((List.length x0) : Nat) : Int)) then
      (Go.Dn.share (List.getD x0 (Int.toNat x1) ((0 : Int), (false, ((0 : Int), ((0 : Int), (([] : List (Int × ((Int × (Int × ((List Int) × Unit))) × Unit))), ((0 : Int), ((0 : Int), ((0 : Int), ((0 : Int), ())))))))))) fun s0 =>
        (laws_toNode.F k (s0, ())).bind fun y1 =>
        bif (Go.Dn.inB x1 (((List.length x2) : Nat) : Int)) then
        (Go.Dn.share (List.set x2 (Int.toNat x1) (y1.1.1.1, y1.1.1.2.1, y1.1.1.2.2.1, y1.1.1.2.2.2.1, y1.1.1.2.2.2.2.1, y1.1.1.2.2.2.2.2.1, y1.1.1.2.2.2.2.2.2.1, y1.1.1.2.2.2.2.2.2.2.1, y1.1.1.2.2.2.2.2.2.2.2.1, (List.getD x2 (Int.toNat x1) ((0 : Int), (false, ((0 : Int), ((0 : Int), (([] : List (Int × ((Int × (Int × ((List Int) × Unit))) × Unit))), ((0 : Int), ((0 : Int), ((0 : Int), ((0 : Int), ())))))))))).2.2.2.2.2.2.2.2.2)) fun s2 =>
          laws_toNodeS.l3 k c0 n x0 (IntKind.wrap .i64 (x1 + (1 : Int))) s2)
        else none)
      else none)
    else c0 (x2, ())
def laws_toNodeS.F (k : Nat) (x : ((List (Int × (Bool × (Int × (Int × ((List (Int × ((Int × (Int × ((List Int) × Unit))) × Unit))) × (Int × (Int × (Int × (Int × Unit)))))))))) × Unit)) : Option (((List (Int × (Bool × (Int × (Int × ((List (Int × ((Int × (Int × ((List Int) × Unit))) × Unit))) × (Int × (Int × (Int × (Int × Unit)))))))))) × Unit) × Unit) :=
  bif (decide (((((List.length x.1) : Nat) : Int) ≤ (((List.length x.1) : Nat) : Int)))) then
  (bif (Go.Dn.roomy (Int.toNat (((List.length x.1) : Nat) : Int)) 88) then
    (laws_toNodeS.l3 k (fun e3 =>
        some (e3, ())) k x.1 (0 : Int) (List.replicate (Int.toNat (((List.length x.1) : Nat) : Int)) ((0 : Int), (false, ((0 : Int), ((0 : Int), (([] : List (Int × ((Int × (Int × ((List Int) × Unit))) × Unit))), ((0 : Int), ((0 : Int), ((0 : Int), ((0 : Int), ())))))))))))
    else none)
  else none
def laws_toNodeS.hd : Hints := ⟨[(3, ⟨[0, 3, 4], []⟩)], [(0, [3]), (1, [0, 3, 4])], [2], [0, 3, 4], []⟩
def laws_toNodeS.lps (k : Nat) : List (Nat × Lp laws_toNodeS.sg.Out) := [(3, ⟨[.l kNode, .i, .l kNode], fun x => (fun x0 x1 x2 => ⟨[(0, .v false [.fz kNode x0]), (3, .v false [.arr 0]), (4, .v false [.int .i64 x1])], [(0, .arr kNode true false x2)], []⟩) x.1 x.2.1 x.2.2.1, fun C n x => laws_toNodeS.l3 k (fun y => C (.exit 0) ((fun y0 => ⟨[(3, .v false [.arr 0])], [(0, .arr kNode true false y0)], []⟩) y.1)) n x.1 x.2.1 x.2.2.1⟩)]
theorem laws_toNodeS.loops (k : Nat) : LoopsOk laws_toNodeS.E k laws_toNodeS.hd (laws_toNodeS.lps k) (loopsOf (Go.Proofs.Try.f171.body.getD .skip)) := ⟨⟨fun _ _ => rfl, fun _ _ _ => by kernel_rfl, fun _ => ⟨rfl, rfl⟩⟩, trivial⟩
theorem laws_toNodeS.den (k : Nat) (x : Sig.In laws_toNodeS.sg.ps) : denFn laws_toNodeS.E k Go.Proofs.Try.f171 laws_toNodeS.sg laws_toNodeS.hd (runL k laws_toNodeS.hd (laws_toNodeS.lps k)) x = laws_toNodeS.F k x := by kernel_rfl
theorem laws_toNodeS.ok (k : Nat) : Contract Try.prog 171 laws_toNodeS.sg (laws_toNodeS.F k) := ok_of (E := laws_toNodeS.E) (tysOk _ _) (eqsOk _) ⟨laws_toNode.ok k, trivial⟩ Try.func171 rfl (by kernel_rfl) (laws_toNodeS.loops k) (laws_toNodeS.den k)
def laws_toWire.sg : Sig := ⟨[.b kWire], [(kWire, .dp)]⟩
def laws_toWire.E : Env := ⟨tys, bys, [(302, ⟨laws_toByteS.sg, laws_toByteS.F⟩)], eqs⟩
def laws_toWire.F (k : Nat) (x : ((Int × ((List Int) × (Int × ((List Int) × Unit)))) × Unit)) : Option (((Int × ((List Int) × (Int × ((List Int) × Unit)))) × Unit) × Unit) :=
  (laws_toByteS.F k (x.1.2.1, ())).bind fun y0 =>
  (laws_toByteS.F k x.1.2.2.2).bind fun y1 =>
  some (((x.1.1, y0.1.1, x.1.2.2.1, y1.1), ()), ())
def laws_toWire.hd : Hints := ⟨[], [], [2], [0, 1, 2, 3], []⟩
def laws_toWire.lps (k : Nat) : List (Nat × Lp laws_toWire.sg.Out) := []
theorem laws_toWire.loops (k : Nat) : LoopsOk laws_toWire.E k laws_toWire.hd (laws_toWire.lps k) (loopsOf (Go.Proofs.Try.f264.body.getD .skip)) := trivial
theorem laws_toWire.den (k : Nat) (x : Sig.In laws_toWire.sg.ps) : denFn laws_toWire.E k Go.Proofs.Try.f264 laws_toWire.sg laws_toWire.hd (runL k laws_toWire.hd (laws_toWire.lps k)) x = laws_toWire.F k x := by kernel_rfl
theorem laws_toWire.ok (k : Nat) : Contract Try.prog 264 laws_toWire.sg (laws_toWire.F k) := ok_of (E := laws_toWire.E) (tysOk _ _) (eqsOk _) ⟨laws_toByteS.ok k, trivial⟩ Try.func264 rfl (by kernel_rfl) (laws_toWire.loops k) (laws_toWire.den k)
def laws_toWireS.sg : Sig := ⟨[.b (.sl kWire)], [((.sl kWire), .dp)]⟩
def laws_toWireS.E : Env := ⟨tys, bys, [(264, ⟨laws_toWire.sg, laws_toWire.F⟩)], eqs⟩
def laws_toWireS.l3 {ρ : Type} (k : Nat) (c0 : (List (Int × ((List Int) × (Int × ((List Int) × Unit)))) × Unit) → Option ρ) : Nat → List (Int × ((List Int) × (Int × ((List Int) × Unit)))) → Int → List (Int × ((List Int) × (Int × ((List Int) × Unit)))) → Option ρ
  | 0 => fun _ _ _ => none
  | n + 1 => fun x0 x1 x2 => 
    bif (decide ((x1 < (((List.length x0) : Nat) : Int)))) then
    (bif (Go.Dn.inB x1 (((List.length x0) : Nat) : Int)) then
      (Go.Dn.share (List.getD x0 (Int.toNat x1) ((0 : Int), (([] : List Int), ((0 : Int), (([] : List Int), ()))))) fun s0 =>
        (laws_toWire.F k (s0, ())).bind fun y1 =>
        bif (Go.Dn.inB x1 (((List.length x2) : Nat) : Int)) then
        (Go.Dn.share (List.set x2 (Int.toNat x1) (y1.1.1.1, y1.1.1.2.1, y1.1.1.2.2.1, y1.1.1.2.2.2.1, (List.getD x2 (Int.toNat x1) ((0 : Int), (([] : List Int), ((0 : Int), (([] : List Int), ()))))).2.2.2.2)) fun s2 =>
          laws_toWireS.l3 k c0 n x0 (IntKind.wrap .i64 (x1 + (1 : Int))) s2)
        else none)
      else none)
    else c0 (x2, ())
def laws_toWireS.F (k : Nat) (x : ((List (Int × ((List Int) × (Int × ((List Int) × Unit))))) × Unit)) : Option (((List (Int × ((List Int) × (Int × ((List Int) × Unit))))) × Unit) × Unit) :=
  bif (decide (((((List.length x.1) : Nat) : Int) ≤ (((List.length x.1) : Nat) : Int)))) then
  (bif (Go.Dn.roomy (Int.toNat (((List.length x.1) : Nat) : Int)) 64) then
    (laws_toWireS.l3 k (fun e3 =>
        some (e3, ())) k x.1 (0 : Int) (List.replicate (Int.toNat (((List.length x.1) : Nat) : Int)) ((0 : Int), (([] : List Int), ((0 : Int), (([] : List Int), ()))))))
    else none)
  else none
def laws_toWireS.hd : Hints := ⟨[(3, ⟨[0, 3, 4], []⟩)], [(0, [3]), (1, [0, 3, 4])], [2], [0, 3, 4], []⟩
def laws_toWireS.lps (k : Nat) : List (Nat × Lp laws_toWireS.sg.Out) := [(3, ⟨[.l kWire, .i, .l kWire], fun x => (fun x0 x1 x2 => ⟨[(0, .v false [.fz kWire x0]), (3, .v false [.arr 0]), (4, .v false [.int .i64 x1])], [(0, .arr kWire true false x2)], []⟩) x.1 x.2.1 x.2.2.1, fun C n x => laws_toWireS.l3 k (fun y => C (.exit 0) ((fun y0 => ⟨[(3, .v false [.arr 0])], [(0, .arr kWire true false y0)], []⟩) y.1)) n x.1 x.2.1 x.2.2.1⟩)]
theorem laws_toWireS.loops (k : Nat) : LoopsOk laws_toWireS.E k laws_toWireS.hd (laws_toWireS.lps k) (loopsOf (Go.Proofs.Try.f172.body.getD .skip)) := ⟨⟨fun _ _ => rfl, fun _ _ _ => by kernel_rfl, fun _ => ⟨rfl, rfl⟩⟩, trivial⟩
theorem laws_toWireS.den (k : Nat) (x : Sig.In laws_toWireS.sg.ps) : denFn laws_toWireS.E k Go.Proofs.Try.f172 laws_toWireS.sg laws_toWireS.hd (runL k laws_toWireS.hd (laws_toWireS.lps k)) x = laws_toWireS.F k x := by kernel_rfl
theorem laws_toWireS.ok (k : Nat) : Contract Try.prog 172 laws_toWireS.sg (laws_toWireS.F k) := ok_of (E := laws_toWireS.E) (tysOk _ _) (eqsOk _) ⟨laws_toWire.ok k, trivial⟩ Try.func172 rfl (by kernel_rfl) (laws_toWireS.loops k) (laws_toWireS.den k)
def laws_toMailS.sg : Sig := ⟨[.b (.sl kMail)], [((.sl kMail), .dp)]⟩
def laws_toMailS.E : Env := ⟨tys, bys, [(33, ⟨laws_toMail.sg, laws_toMail.F⟩)], eqs⟩
def laws_toMailS.l3 {ρ : Type} (k : Nat) (c0 : (List (Int × (Int × (Int × (Int × (Int × (Bool × ((Int × ((Int × (Int × ((List Int) × Unit))) × Unit)) × Unit))))))) × Unit) → Option ρ) : Nat → List (Int × (Int × (Int × (Int × (Int × (Bool × ((Int × ((Int × (Int × ((List Int) × Unit))) × Unit)) × Unit))))))) → Int → List (Int × (Int × (Int × (Int × (Int × (Bool × ((Int × ((Int × (Int × ((List Int) × Unit))) × Unit)) × Unit))))))) → Option ρ
  | 0 => fun _ _ _ => none
  | n + 1 => fun x0 x1 x2 => 
    bif (decide ((x1 < (((List.length x0) : Nat) : Int)))) then
    (bif (Go.Dn.inB x1 (((List.length x0) : Nat) : Int)) then
      (Go.Dn.share (List.getD x0 (Int.toNat x1) ((0 : Int), ((0 : Int), ((0 : Int), ((0 : Int), ((0 : Int), (false, (((0 : Int), (((0 : Int), ((0 : Int), (([] : List Int), ()))), ())), ())))))))) fun s0 =>
        (laws_toMail.F k (s0, ())).bind fun y1 =>
        bif (Go.Dn.inB x1 (((List.length x2) : Nat) : Int)) then
        (Go.Dn.share (List.set x2 (Int.toNat x1) (y1.1.1.1, y1.1.1.2.1, y1.1.1.2.2.1, y1.1.1.2.2.2.1, y1.1.1.2.2.2.2.1, y1.1.1.2.2.2.2.2.1, (y1.1.1.2.2.2.2.2.2.1.1, (y1.1.1.2.2.2.2.2.2.1.2.1.1, y1.1.1.2.2.2.2.2.2.1.2.1.2.1, y1.1.1.2.2.2.2.2.2.1.2.1.2.2.1, (List.getD x2 (Int.toNat x1) ((0 : Int), ((0 : Int), ((0 : Int), ((0 : Int), ((0 : Int), (false, (((0 : Int), (((0 : Int), ((0 : Int), (([] : List Int), ()))), ())), ())))))))).2.2.2.2.2.2.1.2.1.2.2.2), (List.getD x2 (Int.toNat x1) ((0 : Int), ((0 : Int), ((0 : Int), ((0 : Int), ((0 : Int), (false, (((0 : Int), (((0 : Int), ((0 : Int), (([] : List Int), ()))), ())), ())))))))).2.2.2.2.2.2.1.2.2), (List.getD x2 (Int.toNat x1) ((0 : Int), ((0 : Int), ((0 : Int), ((0 : Int), ((0 : Int), (false, (((0 : Int), (((0 : Int), ((0 : Int), (([] : List Int), ()))), ())), ())))))))).2.2.2.2.2.2.2)) fun s2 =>
          laws_toMailS.l3 k c0 n x0 (IntKind.wrap .i64 (x1 + (1 : Int))) s2)
        else none)
      else none)
    else c0 (x2, ())
def laws_toMailS.F (k : Nat) (x : ((List (Int × (Int × (Int × (Int × (Int × (Bool × ((Int × ((Int × (Int × ((List Int) × Unit))) × Unit)) × Unit)))))))) × Unit)) : Option (((List (Int × (Int × (Int × (Int × (Int × (Bool × ((Int × ((Int × (Int × ((List Int) × Unit))) × Unit)) × Unit)))))))) × Unit) × Unit) :=
  bif (decide (((((List.length x.1) : Nat) : Int) ≤ (((List.length x.1) : Nat) : Int)))) then
  (bif (Go.Dn.roomy (Int.toNat (((List.length x.1) : Nat) : Int)) 96) then
    (laws_toMailS.l3 k (fun e3 =>
        some (e3, ())) k x.1 (0 : Int) (List.replicate (Int.toNat (((List.length x.1) : Nat) : Int)) ((0 : Int), ((0 : Int), ((0 : Int), ((0 : Int), ((0 : Int), (false, (((0 : Int), (((0 : Int), ((0 : Int), (([] : List Int), ()))), ())), ())))))))))
    else none)
  else none
def laws_toMailS.hd : Hints := ⟨[(3, ⟨[0, 3, 4], []⟩)], [(0, [3]), (1, [0, 3, 4])], [2], [0, 3, 4], []⟩
def laws_toMailS.lps (k : Nat) : List (Nat × Lp laws_toMailS.sg.Out) := [(3, ⟨[.l kMail, .i, .l kMail], fun x => (fun x0 x1 x2 => ⟨[(0, .v false [.fz kMail x0]), (3, .v false [.arr 0]), (4, .v false [.int .i64 x1])], [(0, .arr kMail true false x2)], []⟩) x.1 x.2.1 x.2.2.1, fun C n x => laws_toMailS.l3 k (fun y => C (.exit 0) ((fun y0 => ⟨[(3, .v false [.arr 0])], [(0, .arr kMail true false y0)], []⟩) y.1)) n x.1 x.2.1 x.2.2.1⟩)]
theorem laws_toMailS.loops (k : Nat) : LoopsOk laws_toMailS.E k laws_toMailS.hd (laws_toMailS.lps k) (loopsOf (Go.Proofs.Try.f173.body.getD .skip)) := ⟨⟨fun _ _ => rfl, fun _ _ _ => by kernel_rfl, fun _ => ⟨rfl, rfl⟩⟩, trivial⟩
theorem laws_toMailS.den (k : Nat) (x : Sig.In laws_toMailS.sg.ps) : denFn laws_toMailS.E k Go.Proofs.Try.f173 laws_toMailS.sg laws_toMailS.hd (runL k laws_toMailS.hd (laws_toMailS.lps k)) x = laws_toMailS.F k x := by kernel_rfl
theorem laws_toMailS.ok (k : Nat) : Contract Try.prog 173 laws_toMailS.sg (laws_toMailS.F k) := ok_of (E := laws_toMailS.E) (tysOk _ _) (eqsOk _) ⟨laws_toMail.ok k, trivial⟩ Try.func173 rfl (by kernel_rfl) (laws_toMailS.loops k) (laws_toMailS.den k)
def laws_toPair.sg : Sig := ⟨[.b kPair], [(kPair, .dp)]⟩
def laws_toPair.E : Env := ⟨tys, bys, [(55, ⟨laws_toSettings.sg, laws_toSettings.F⟩), (128, ⟨laws_toEntryS.sg, laws_toEntryS.F⟩), (171, ⟨laws_toNodeS.sg, laws_toNodeS.F⟩), (172, ⟨laws_toWireS.sg, laws_toWireS.F⟩), (173, ⟨laws_toMailS.sg, laws_toMailS.F⟩)], eqs⟩
def laws_toPair.F (k : Nat) (x : ((((Int × (Int × (Int × Unit))) × (Int × ((List ((Int × (Int × Unit)) × (Int × (Int × (Int × (Bool × (Int × (Int × Unit)))))))) × ((List ((Int × (Int × Unit)) × (Int × (Int × (Int × (Bool × (Int × (Int × Unit)))))))) × Unit)))) × ((List (Int × (Bool × (Int × (Int × ((List (Int × ((Int × (Int × ((List Int) × Unit))) × Unit))) × (Int × (Int × (Int × (Int × Unit)))))))))) × ((List (Int × ((List Int) × (Int × ((List Int) × Unit))))) × ((List (Int × (Int × (Int × (Int × (Int × (Bool × ((Int × ((Int × (Int × ((List Int) × Unit))) × Unit)) × Unit)))))))) × ((List (Int × ((Int × (Int × ((List Int) × Unit))) × Unit))) × Unit))))) × Unit)) : Option (((((Int × (Int × (Int × Unit))) × (Int × ((List ((Int × (Int × Unit)) × (Int × (Int × (Int × (Bool × (Int × (Int × Unit)))))))) × ((List ((Int × (Int × Unit)) × (Int × (Int × (Int × (Bool × (Int × (Int × Unit)))))))) × Unit)))) × ((List (Int × (Bool × (Int × (Int × ((List (Int × ((Int × (Int × ((List Int) × Unit))) × Unit))) × (Int × (Int × (Int × (Int × Unit)))))))))) × ((List (Int × ((List Int) × (Int × ((List Int) × Unit))))) × ((List (Int × (Int × (Int × (Int × (Int × (Bool × ((Int × ((Int × (Int × ((List Int) × Unit))) × Unit)) × Unit)))))))) × ((List (Int × ((Int × (Int × ((List Int) × Unit))) × Unit))) × Unit))))) × Unit) × Unit) :=
  (laws_toSettings.F k (x.1.1, ())).bind fun y0 =>
  (laws_toNodeS.F k (x.1.2.1, ())).bind fun y1 =>
  (laws_toWireS.F k (x.1.2.2.1, ())).bind fun y2 =>
  (laws_toMailS.F k (x.1.2.2.2.1, ())).bind fun y3 =>
  (laws_toEntryS.F k x.1.2.2.2.2).bind fun y4 =>
  some (((y0.1.1, y1.1.1, y2.1.1, y3.1.1, y4.1), ()), ())
def laws_toPair.hd : Hints := ⟨[], [], [2], [0, 1, 2, 3], []⟩
def laws_toPair.lps (k : Nat) : List (Nat × Lp laws_toPair.sg.Out) := []
theorem laws_toPair.loops (k : Nat) : LoopsOk laws_toPair.E k laws_toPair.hd (laws_toPair.lps k) (loopsOf (Go.Proofs.Try.f72.body.getD .skip)) := trivial
theorem laws_toPair.den (k : Nat) (x : Sig.In laws_toPair.sg.ps) : denFn laws_toPair.E k Go.Proofs.Try.f72 laws_toPair.sg laws_toPair.hd (runL k laws_toPair.hd (laws_toPair.lps k)) x = laws_toPair.F k x := by kernel_rfl
theorem laws_toPair.ok (k : Nat) : Contract Try.prog 72 laws_toPair.sg (laws_toPair.F k) := ok_of (E := laws_toPair.E) (tysOk _ _) (eqsOk _) ⟨laws_toSettings.ok k, laws_toEntryS.ok k, laws_toNodeS.ok k, laws_toWireS.ok k, laws_toMailS.ok k, trivial⟩ Try.func72 rfl (by kernel_rfl) (laws_toPair.loops k) (laws_toPair.den k)
def impl_size_byte.sg : Sig := ⟨[.b (.sl (.int .u8))], [((.int .i64), .rd)]⟩
def impl_size_byte.E : Env := ⟨tys, bys, [], eqs⟩
def impl_size_byte.F (k : Nat) (x : ((List Int) × Unit)) : Option ((Int × Unit) × Unit) :=
  some (((((List.length x.1) : Nat) : Int), ()), ())
def impl_size_byte.hd : Hints := ⟨[], [], [2], [0], []⟩
def impl_size_byte.lps (k : Nat) : List (Nat × Lp impl_size_byte.sg.Out) := []
theorem impl_size_byte.loops (k : Nat) : LoopsOk impl_size_byte.E k impl_size_byte.hd (impl_size_byte.lps k) (loopsOf (Go.Proofs.Try.f266.body.getD .skip)) := trivial
theorem impl_size_byte.den (k : Nat) (x : Sig.In impl_size_byte.sg.ps) : denFn impl_size_byte.E k Go.Proofs.Try.f266 impl_size_byte.sg impl_size_byte.hd (runL k impl_size_byte.hd (impl_size_byte.lps k)) x = impl_size_byte.F k x := by kernel_rfl
theorem impl_size_byte.ok (k : Nat) : Contract Try.prog 266 impl_size_byte.sg (impl_size_byte.F k) := ok_of (E := impl_size_byte.E) (tysOk _ _) (eqsOk _) trivial Try.func266 rfl (by kernel_rfl) (impl_size_byte.loops k) (impl_size_byte.den k)
def impl_WireFault.sg : Sig := ⟨[.b kWire], [((.int .i64), .rd)]⟩
def impl_WireFault.E : Env := ⟨tys, bys, [(102, ⟨impl_in.sg, impl_in.F⟩), (266, ⟨impl_size_byte.sg, impl_size_byte.F⟩)], eqs⟩
def impl_WireFault.F (k : Nat) (x : ((Int × ((List Int) × (Int × ((List Int) × Unit)))) × Unit)) : Option ((Int × Unit) × Unit) :=
  (impl_in.F k (x.1.1, (0 : Int), (1000 : Int), ())).bind fun y0 =>
  bif (!y0.1.1) then
  (some (((3 : Int), ()), ()))
  else bif (decide (((((List.length x.1.2.1) : Nat) : Int) > (2000 : Int)))) then
    (some (((2 : Int), ()), ()))
    else bif (decide (((((List.length x.1.2.2.2.1) : Nat) : Int) > (2000 : Int)))) then
      (some (((2 : Int), ()), ()))
      else (impl_size_byte.F k (x.1.2.1, ())).bind fun y1 =>
        (impl_in.F k (x.1.2.2.1, (0 : Int), y1.1)).bind fun y2 =>
        bif (!y2.1.1) then
        (some (((3 : Int), ()), ()))
        else some (((0 : Int), ()), ())
def impl_WireFault.hd : Hints := ⟨[], [(0, [])], [2], [0, 1], [(5, [0, 1, 0, 4, 12, 31, 63, 127])]⟩
def impl_WireFault.lps (k : Nat) : List (Nat × Lp impl_WireFault.sg.Out) := []
theorem impl_WireFault.loops (k : Nat) : LoopsOk impl_WireFault.E k impl_WireFault.hd (impl_WireFault.lps k) (loopsOf (Go.Proofs.Try.f175.body.getD .skip)) := trivial
theorem impl_WireFault.den (k : Nat) (x : Sig.In impl_WireFault.sg.ps) : denFn impl_WireFault.E k Go.Proofs.Try.f175 impl_WireFault.sg impl_WireFault.hd (runL k impl_WireFault.hd (impl_WireFault.lps k)) x = impl_WireFault.F k x := by kernel_rfl
theorem impl_WireFault.ok (k : Nat) : Contract Try.prog 175 impl_WireFault.sg (impl_WireFault.F k) := ok_of (E := impl_WireFault.E) (tysOk _ _) (eqsOk _) ⟨impl_in.ok k, impl_size_byte.ok k, trivial⟩ Try.func175 rfl (by kernel_rfl) (impl_WireFault.loops k) (impl_WireFault.den k)
def impl_PairFault.sg : Sig := ⟨[.b kPair], [((.int .i64), .rd)]⟩
def impl_PairFault.E : Env := ⟨tys, bys, [(22, ⟨impl_NodeFault.sg, impl_NodeFault.F⟩), (23, ⟨impl_MailFault.sg, impl_MailFault.F⟩), (101, ⟨impl_isNode.sg, impl_isNode.F⟩), (103, ⟨impl_EntryFault.sg, impl_EntryFault.F⟩), (174, ⟨impl_SettingsFault.sg, impl_SettingsFault.F⟩), (175, ⟨impl_WireFault.sg, impl_WireFault.F⟩)], eqs⟩
def impl_PairFault.l7 {ρ : Type} (k : Nat) (c0 : (Int × Unit) → Option ρ) (c1 : (Int × (Int × (Int × (Int × (List ((Int × (Int × Unit)) × (Int × (Int × (Int × (Bool × (Int × (Int × Unit))))))) × (List ((Int × (Int × Unit)) × (Int × (Int × (Int × (Bool × (Int × (Int × Unit))))))) × (List (Int × (Bool × (Int × (Int × ((List (Int × ((Int × (Int × ((List Int) × Unit))) × Unit))) × (Int × (Int × (Int × (Int × Unit))))))))) × (List (Int × ((List Int) × (Int × ((List Int) × Unit)))) × (List (Int × (Int × (Int × (Int × (Int × (Bool × ((Int × ((Int × (Int × ((List Int) × Unit))) × Unit)) × Unit))))))) × (List (Int × ((Int × (Int × ((List Int) × Unit))) × Unit)) × Unit)))))))))) → Option ρ) : Nat → List (Int × (Bool × (Int × (Int × ((List (Int × ((Int × (Int × ((List Int) × Unit))) × Unit))) × (Int × (Int × (Int × (Int × Unit))))))))) → Int → Int → Int → Int → Int → Int → List ((Int × (Int × Unit)) × (Int × (Int × (Int × (Bool × (Int × (Int × Unit))))))) → List ((Int × (Int × Unit)) × (Int × (Int × (Int × (Bool × (Int × (Int × Unit))))))) → List (Int × (Bool × (Int × (Int × ((List (Int × ((Int × (Int × ((List Int) × Unit))) × Unit))) × (Int × (Int × (Int × (Int × Unit))))))))) → List (Int × ((List Int) × (Int × ((List Int) × Unit)))) → List (Int × (Int × (Int × (Int × (Int × (Bool × ((Int × ((Int × (Int × ((List Int) × Unit))) × Unit)) × Unit))))))) → List (Int × ((Int × (Int × ((List Int) × Unit))) × Unit)) → Option ρ
  | 0 => fun _ _ _ _ _ _ _ _ _ _ _ _ _ => none
  | n + 1 => fun x0 x1 x2 x3 x4 x5 x6 x7 x8 x9 x10 x11 x12 => 
    bif (decide ((x2 < x1))) then
    (bif (Go.Dn.inB x2 (((List.length x0) : Nat) : Int)) then
      (Go.Dn.share (List.getD x0 (Int.toNat x2) ((0 : Int), (false, ((0 : Int), ((0 : Int), (([] : List (Int × ((Int × (Int × ((List Int) × Unit))) × Unit))), ((0 : Int), ((0 : Int), ((0 : Int), ((0 : Int), ())))))))))) fun s1 =>
        (impl_NodeFault.F k (s1, ())).bind fun y2 =>
        bif (y2.1.1 != (0 : Int)) then
        (c0 (y2.1.1, ()))
        else bif (s1.1 != x2) then
          (c0 ((1 : Int), ()))
          else impl_PairFault.l7 k c0 c1 n x0 x1 (IntKind.wrap .i64 (x2 + (1 : Int))) x3 x4 x5 x6 x7 x8 x9 x10 x11 x12)
      else none)
    else c1 (x3, x4, x5, x6, x7, x8, x9, x10, x11, x12, ())
def impl_PairFault.l16 {ρ : Type} (k : Nat) (c0 : (Int × Unit) → Option ρ) (c1 : (Int × (Int × (Int × (Int × (List ((Int × (Int × Unit)) × (Int × (Int × (Int × (Bool × (Int × (Int × Unit))))))) × (List ((Int × (Int × Unit)) × (Int × (Int × (Int × (Bool × (Int × (Int × Unit))))))) × (List (Int × (Bool × (Int × (Int × ((List (Int × ((Int × (Int × ((List Int) × Unit))) × Unit))) × (Int × (Int × (Int × (Int × Unit))))))))) × (List (Int × ((List Int) × (Int × ((List Int) × Unit)))) × (List (Int × (Int × (Int × (Int × (Int × (Bool × ((Int × ((Int × (Int × ((List Int) × Unit))) × Unit)) × Unit))))))) × (List (Int × ((Int × (Int × ((List Int) × Unit))) × Unit)) × Unit)))))))))) → Option ρ) : Nat → List (Int × ((List Int) × (Int × ((List Int) × Unit)))) → Int → Int → Int → Int → Int → Int → List ((Int × (Int × Unit)) × (Int × (Int × (Int × (Bool × (Int × (Int × Unit))))))) → List ((Int × (Int × Unit)) × (Int × (Int × (Int × (Bool × (Int × (Int × Unit))))))) → List (Int × (Bool × (Int × (Int × ((List (Int × ((Int × (Int × ((List Int) × Unit))) × Unit))) × (Int × (Int × (Int × (Int × Unit))))))))) → List (Int × ((List Int) × (Int × ((List Int) × Unit)))) → List (Int × (Int × (Int × (Int × (Int × (Bool × ((Int × ((Int × (Int × ((List Int) × Unit))) × Unit)) × Unit))))))) → List (Int × ((Int × (Int × ((List Int) × Unit))) × Unit)) → Option ρ
  | 0 => fun _ _ _ _ _ _ _ _ _ _ _ _ _ => none
  | n + 1 => fun x0 x1 x2 x3 x4 x5 x6 x7 x8 x9 x10 x11 x12 => 
    bif (decide ((x2 < x1))) then
    (bif (Go.Dn.inB x2 (((List.length x0) : Nat) : Int)) then
      (Go.Dn.share (List.getD x0 (Int.toNat x2) ((0 : Int), (([] : List Int), ((0 : Int), (([] : List Int), ()))))) fun s5 =>
        (impl_WireFault.F k (s5, ())).bind fun y6 =>
        bif (y6.1.1 != (0 : Int)) then
        (c0 (y6.1.1, ()))
        else impl_PairFault.l16 k c0 c1 n x0 x1 (IntKind.wrap .i64 (x2 + (1 : Int))) x3 x4 x5 x6 x7 x8 x9 x10 x11 x12)
      else none)
    else c1 (x3, x4, x5, x6, x7, x8, x9, x10, x11, x12, ())
def impl_PairFault.l25 {ρ : Type} (k : Nat) (c0 : (Int × Unit) → Option ρ) (c1 : (Int × (Int × (Int × (Int × (List ((Int × (Int × Unit)) × (Int × (Int × (Int × (Bool × (Int × (Int × Unit))))))) × (List ((Int × (Int × Unit)) × (Int × (Int × (Int × (Bool × (Int × (Int × Unit))))))) × (List (Int × (Bool × (Int × (Int × ((List (Int × ((Int × (Int × ((List Int) × Unit))) × Unit))) × (Int × (Int × (Int × (Int × Unit))))))))) × (List (Int × ((List Int) × (Int × ((List Int) × Unit)))) × (List (Int × (Int × (Int × (Int × (Int × (Bool × ((Int × ((Int × (Int × ((List Int) × Unit))) × Unit)) × Unit))))))) × (List (Int × ((Int × (Int × ((List Int) × Unit))) × Unit)) × Unit)))))))))) → Option ρ) : Nat → List (Int × (Int × (Int × (Int × (Int × (Bool × ((Int × ((Int × (Int × ((List Int) × Unit))) × Unit)) × Unit))))))) → Int → Int → Int → Int → Int → Int → List ((Int × (Int × Unit)) × (Int × (Int × (Int × (Bool × (Int × (Int × Unit))))))) → List ((Int × (Int × Unit)) × (Int × (Int × (Int × (Bool × (Int × (Int × Unit))))))) → List (Int × (Bool × (Int × (Int × ((List (Int × ((Int × (Int × ((List Int) × Unit))) × Unit))) × (Int × (Int × (Int × (Int × Unit))))))))) → List (Int × ((List Int) × (Int × ((List Int) × Unit)))) → List (Int × (Int × (Int × (Int × (Int × (Bool × ((Int × ((Int × (Int × ((List Int) × Unit))) × Unit)) × Unit))))))) → List (Int × ((Int × (Int × ((List Int) × Unit))) × Unit)) → Option ρ
  | 0 => fun _ _ _ _ _ _ _ _ _ _ _ _ _ => none
  | n + 1 => fun x0 x1 x2 x3 x4 x5 x6 x7 x8 x9 x10 x11 x12 => 
    bif (decide ((x2 < x1))) then
    (bif (Go.Dn.inB x2 (((List.length x0) : Nat) : Int)) then
      (Go.Dn.share (List.getD x0 (Int.toNat x2) ((0 : Int), ((0 : Int), ((0 : Int), ((0 : Int), ((0 : Int), (false, (((0 : Int), (((0 : Int), ((0 : Int), (([] : List Int), ()))), ())), ())))))))) fun s9 =>
        (impl_isNode.F k (s9.2.1, ())).bind fun y10 =>
        bif (!y10.1.1) then
        (c0 ((1 : Int), ()))
        else bif (Go.Dn.inB s9.2.1 (((List.length x9) : Nat) : Int)) then
          (Go.Dn.share (List.getD x9 (Int.toNat s9.2.1) ((0 : Int), (false, ((0 : Int), ((0 : Int), (([] : List (Int × ((Int × (Int × ((List Int) × Unit))) × Unit))), ((0 : Int), ((0 : Int), ((0 : Int), ((0 : Int), ())))))))))) fun s11 =>
            (impl_MailFault.F k (s11, s9, ())).bind fun y12 =>
            bif (y12.1.1 != (0 : Int)) then
            (c0 (y12.1.1, ()))
            else impl_PairFault.l25 k c0 c1 n x0 x1 (IntKind.wrap .i64 (x2 + (1 : Int))) x3 x4 x5 x6 x7 x8 x9 x10 x11 x12)
          else none)
      else none)
    else c1 (x3, x4, x5, x6, x7, x8, x9, x10, x11, x12, ())
def impl_PairFault.l36 {ρ : Type} (k : Nat) (c0 : (Int × Unit) → Option ρ) (c1 : Unit → Option ρ) : Nat → List (Int × ((Int × (Int × ((List Int) × Unit))) × Unit)) → Int → Int → Option ρ
  | 0 => fun _ _ _ => none
  | n + 1 => fun x0 x1 x2 => 
    bif (decide ((x2 < x1))) then
    (bif (Go.Dn.inB x2 (((List.length x0) : Nat) : Int)) then
      (Go.Dn.share (List.getD x0 (Int.toNat x2) ((0 : Int), (((0 : Int), ((0 : Int), (([] : List Int), ()))), ()))) fun s15 =>
        (impl_EntryFault.F k (s15, ())).bind fun y16 =>
        bif (y16.1.1 != (0 : Int)) then
        (c0 (y16.1.1, ()))
        else impl_PairFault.l36 k c0 c1 n x0 x1 (IntKind.wrap .i64 (x2 + (1 : Int))))
      else none)
    else c1 (())
def impl_PairFault.F (k : Nat) (x : ((((Int × (Int × (Int × Unit))) × (Int × ((List ((Int × (Int × Unit)) × (Int × (Int × (Int × (Bool × (Int × (Int × Unit)))))))) × ((List ((Int × (Int × Unit)) × (Int × (Int × (Int × (Bool × (Int × (Int × Unit)))))))) × Unit)))) × ((List (Int × (Bool × (Int × (Int × ((List (Int × ((Int × (Int × ((List Int) × Unit))) × Unit))) × (Int × (Int × (Int × (Int × Unit)))))))))) × ((List (Int × ((List Int) × (Int × ((List Int) × Unit))))) × ((List (Int × (Int × (Int × (Int × (Int × (Bool × ((Int × ((Int × (Int × ((List Int) × Unit))) × Unit)) × Unit)))))))) × ((List (Int × ((Int × (Int × ((List Int) × Unit))) × Unit))) × Unit))))) × Unit)) : Option ((Int × Unit) × Unit) :=
  (impl_SettingsFault.F k (x.1.1, ())).bind fun y0 =>
  bif (y0.1.1 != (0 : Int)) then
  (some y0)
  else bif ((((List.length x.1.2.1) : Nat) : Int) != (2 : Int)) then
    (some (((1 : Int), ()), ()))
    else bif ((((List.length x.1.2.2.1) : Nat) : Int) != (3 : Int)) then
      (some (((1 : Int), ()), ()))
      else impl_PairFault.l7 k (fun e3 =>
          some (e3, ())) (fun e4 =>
          impl_PairFault.l16 k (fun e7 =>
            some (e7, ())) (fun e8 =>
            bif (decide (((((List.length e8.2.2.2.2.2.2.2.2.1) : Nat) : Int) > (40 : Int)))) then
            (some (((2 : Int), ()), ()))
            else impl_PairFault.l25 k (fun e13 =>
                some (e13, ())) (fun e14 =>
                bif (decide (((((List.length e14.2.2.2.2.2.2.2.2.2.1) : Nat) : Int) > (100 : Int)))) then
                (some (((2 : Int), ()), ()))
                else impl_PairFault.l36 k (fun e17 =>
                    some (e17, ())) (fun e18 =>
                    some (((0 : Int), ()), ())) k e14.2.2.2.2.2.2.2.2.2.1 (((List.length e14.2.2.2.2.2.2.2.2.2.1) : Nat) : Int) (0 : Int)) k e8.2.2.2.2.2.2.2.2.1 (((List.length e8.2.2.2.2.2.2.2.2.1) : Nat) : Int) (0 : Int) e8.1 e8.2.1 e8.2.2.1 e8.2.2.2.1 e8.2.2.2.2.1 e8.2.2.2.2.2.1 e8.2.2.2.2.2.2.1 e8.2.2.2.2.2.2.2.1 e8.2.2.2.2.2.2.2.2.1 e8.2.2.2.2.2.2.2.2.2.1) k e4.2.2.2.2.2.2.2.1 (((List.length e4.2.2.2.2.2.2.2.1) : Nat) : Int) (0 : Int) e4.1 e4.2.1 e4.2.2.1 e4.2.2.2.1 e4.2.2.2.2.1 e4.2.2.2.2.2.1 e4.2.2.2.2.2.2.1 e4.2.2.2.2.2.2.2.1 e4.2.2.2.2.2.2.2.2.1 e4.2.2.2.2.2.2.2.2.2.1) k x.1.2.1 (((List.length x.1.2.1) : Nat) : Int) (0 : Int) x.1.1.1.1 x.1.1.1.2.1 x.1.1.1.2.2.1 x.1.1.2.1 x.1.1.2.2.1 x.1.1.2.2.2.1 x.1.2.1 x.1.2.2.1 x.1.2.2.2.1 x.1.2.2.2.2.1
def impl_PairFault.hd : Hints := ⟨[(7, ⟨[1, 33, 34, 35], []⟩), (16, ⟨[1, 51, 52, 53], []⟩), (25, ⟨[1, 68, 69, 70], []⟩), (36, ⟨[95, 96, 97], []⟩)], [(0, [1]), (1, [1, 33, 34, 35]), (2, [1]), (3, [1, 51, 52, 53]), (4, [1]), (5, [1, 68, 69, 70]), (6, []), (7, [95, 96, 97])], [2], [0, 1, 3, 4, 5, 6, 8, 9, 11, 12, 14, 15, 33, 34, 35, 51, 52, 53, 68, 69, 70, 95, 96, 97], [(29, [0, 1, 0, 4, 15, 31, 0, 127, 255])]⟩
def impl_PairFault.lps (k : Nat) : List (Nat × Lp impl_PairFault.sg.Out) := [(7, ⟨[.l kNode, .i, .i, .i, .i, .i, .i, .l kRule, .l kRule, .l kNode, .l kWire, .l kMail, .l kEntry], fun x => (fun x0 x1 x2 x3 x4 x5 x6 x7 x8 x9 x10 x11 x12 => ⟨[(1, .v false [.box 0 0]), (33, .v false [.fz kNode x0]), (34, .v false [.int .i64 x1]), (35, .v false [.int .i64 x2])], [(0, .box [.int .i64 x3, .int .i64 x4, .int .i64 x5, .int .i64 x6, .fz kRule x7, .fz kRule x8, .fz kNode x9, .fz kWire x10, .fz kMail x11, .fz kEntry x12])], []⟩) x.1 x.2.1 x.2.2.1 x.2.2.2.1 x.2.2.2.2.1 x.2.2.2.2.2.1 x.2.2.2.2.2.2.1 x.2.2.2.2.2.2.2.1 x.2.2.2.2.2.2.2.2.1 x.2.2.2.2.2.2.2.2.2.1 x.2.2.2.2.2.2.2.2.2.2.1 x.2.2.2.2.2.2.2.2.2.2.2.1 x.2.2.2.2.2.2.2.2.2.2.2.2.1, fun C n x => impl_PairFault.l7 k (fun y => C .ret ((fun y0 => ⟨[(2, .v false [.int .i64 y0])], [], []⟩) y.1)) (fun y => C (.exit 0) ((fun y0 y1 y2 y3 y4 y5 y6 y7 y8 y9 => ⟨[(1, .v false [.box 0 0])], [(0, .box [.int .i64 y0, .int .i64 y1, .int .i64 y2, .int .i64 y3, .fz kRule y4, .fz kRule y5, .fz kNode y6, .fz kWire y7, .fz kMail y8, .fz kEntry y9])], []⟩) y.1 y.2.1 y.2.2.1 y.2.2.2.1 y.2.2.2.2.1 y.2.2.2.2.2.1 y.2.2.2.2.2.2.1 y.2.2.2.2.2.2.2.1 y.2.2.2.2.2.2.2.2.1 y.2.2.2.2.2.2.2.2.2.1)) n x.1 x.2.1 x.2.2.1 x.2.2.2.1 x.2.2.2.2.1 x.2.2.2.2.2.1 x.2.2.2.2.2.2.1 x.2.2.2.2.2.2.2.1 x.2.2.2.2.2.2.2.2.1 x.2.2.2.2.2.2.2.2.2.1 x.2.2.2.2.2.2.2.2.2.2.1 x.2.2.2.2.2.2.2.2.2.2.2.1 x.2.2.2.2.2.2.2.2.2.2.2.2.1⟩),
  (16, ⟨[.l kWire, .i, .i, .i, .i, .i, .i, .l kRule, .l kRule, .l kNode, .l kWire, .l kMail, .l kEntry], fun x => (fun x0 x1 x2 x3 x4 x5 x6 x7 x8 x9 x10 x11 x12 => ⟨[(1, .v false [.box 0 0]), (51, .v false [.fz kWire x0]), (52, .v false [.int .i64 x1]), (53, .v false [.int .i64 x2])], [(0, .box [.int .i64 x3, .int .i64 x4, .int .i64 x5, .int .i64 x6, .fz kRule x7, .fz kRule x8, .fz kNode x9, .fz kWire x10, .fz kMail x11, .fz kEntry x12])], []⟩) x.1 x.2.1 x.2.2.1 x.2.2.2.1 x.2.2.2.2.1 x.2.2.2.2.2.1 x.2.2.2.2.2.2.1 x.2.2.2.2.2.2.2.1 x.2.2.2.2.2.2.2.2.1 x.2.2.2.2.2.2.2.2.2.1 x.2.2.2.2.2.2.2.2.2.2.1 x.2.2.2.2.2.2.2.2.2.2.2.1 x.2.2.2.2.2.2.2.2.2.2.2.2.1, fun C n x => impl_PairFault.l16 k (fun y => C .ret ((fun y0 => ⟨[(2, .v false [.int .i64 y0])], [], []⟩) y.1)) (fun y => C (.exit 2) ((fun y0 y1 y2 y3 y4 y5 y6 y7 y8 y9 => ⟨[(1, .v false [.box 0 0])], [(0, .box [.int .i64 y0, .int .i64 y1, .int .i64 y2, .int .i64 y3, .fz kRule y4, .fz kRule y5, .fz kNode y6, .fz kWire y7, .fz kMail y8, .fz kEntry y9])], []⟩) y.1 y.2.1 y.2.2.1 y.2.2.2.1 y.2.2.2.2.1 y.2.2.2.2.2.1 y.2.2.2.2.2.2.1 y.2.2.2.2.2.2.2.1 y.2.2.2.2.2.2.2.2.1 y.2.2.2.2.2.2.2.2.2.1)) n x.1 x.2.1 x.2.2.1 x.2.2.2.1 x.2.2.2.2.1 x.2.2.2.2.2.1 x.2.2.2.2.2.2.1 x.2.2.2.2.2.2.2.1 x.2.2.2.2.2.2.2.2.1 x.2.2.2.2.2.2.2.2.2.1 x.2.2.2.2.2.2.2.2.2.2.1 x.2.2.2.2.2.2.2.2.2.2.2.1 x.2.2.2.2.2.2.2.2.2.2.2.2.1⟩),
  (25, ⟨[.l kMail, .i, .i, .i, .i, .i, .i, .l kRule, .l kRule, .l kNode, .l kWire, .l kMail, .l kEntry], fun x => (fun x0 x1 x2 x3 x4 x5 x6 x7 x8 x9 x10 x11 x12 => ⟨[(1, .v false [.box 0 0]), (68, .v false [.fz kMail x0]), (69, .v false [.int .i64 x1]), (70, .v false [.int .i64 x2])], [(0, .box [.int .i64 x3, .int .i64 x4, .int .i64 x5, .int .i64 x6, .fz kRule x7, .fz kRule x8, .fz kNode x9, .fz kWire x10, .fz kMail x11, .fz kEntry x12])], []⟩) x.1 x.2.1 x.2.2.1 x.2.2.2.1 x.2.2.2.2.1 x.2.2.2.2.2.1 x.2.2.2.2.2.2.1 x.2.2.2.2.2.2.2.1 x.2.2.2.2.2.2.2.2.1 x.2.2.2.2.2.2.2.2.2.1 x.2.2.2.2.2.2.2.2.2.2.1 x.2.2.2.2.2.2.2.2.2.2.2.1 x.2.2.2.2.2.2.2.2.2.2.2.2.1, fun C n x => impl_PairFault.l25 k (fun y => C .ret ((fun y0 => ⟨[(2, .v false [.int .i64 y0])], [], []⟩) y.1)) (fun y => C (.exit 4) ((fun y0 y1 y2 y3 y4 y5 y6 y7 y8 y9 => ⟨[(1, .v false [.box 0 0])], [(0, .box [.int .i64 y0, .int .i64 y1, .int .i64 y2, .int .i64 y3, .fz kRule y4, .fz kRule y5, .fz kNode y6, .fz kWire y7, .fz kMail y8, .fz kEntry y9])], []⟩) y.1 y.2.1 y.2.2.1 y.2.2.2.1 y.2.2.2.2.1 y.2.2.2.2.2.1 y.2.2.2.2.2.2.1 y.2.2.2.2.2.2.2.1 y.2.2.2.2.2.2.2.2.1 y.2.2.2.2.2.2.2.2.2.1)) n x.1 x.2.1 x.2.2.1 x.2.2.2.1 x.2.2.2.2.1 x.2.2.2.2.2.1 x.2.2.2.2.2.2.1 x.2.2.2.2.2.2.2.1 x.2.2.2.2.2.2.2.2.1 x.2.2.2.2.2.2.2.2.2.1 x.2.2.2.2.2.2.2.2.2.2.1 x.2.2.2.2.2.2.2.2.2.2.2.1 x.2.2.2.2.2.2.2.2.2.2.2.2.1⟩),
  (36, ⟨[.l kEntry, .i, .i], fun x => (fun x0 x1 x2 => ⟨[(95, .v false [.fz kEntry x0]), (96, .v false [.int .i64 x1]), (97, .v false [.int .i64 x2])], [], []⟩) x.1 x.2.1 x.2.2.1, fun C n x => impl_PairFault.l36 k (fun y => C .ret ((fun y0 => ⟨[(2, .v false [.int .i64 y0])], [], []⟩) y.1)) (fun _ => C (.exit 6) ⟨[], [], []⟩) n x.1 x.2.1 x.2.2.1⟩)]
theorem impl_PairFault.loops (k : Nat) : LoopsOk impl_PairFault.E k impl_PairFault.hd (impl_PairFault.lps k) (loopsOf (Go.Proofs.Try.f73.body.getD .skip)) := ⟨⟨fun _ _ => rfl, fun _ _ _ => by kernel_rfl, fun _ => ⟨rfl, rfl⟩⟩, ⟨⟨fun _ _ => rfl, fun _ _ _ => by kernel_rfl, fun _ => ⟨rfl, rfl⟩⟩, ⟨⟨fun _ _ => rfl, fun _ _ _ => by kernel_rfl, fun _ => ⟨rfl, rfl⟩⟩, ⟨⟨fun _ _ => rfl, fun _ _ _ => by kernel_rfl, fun _ => ⟨rfl, rfl⟩⟩, trivial⟩⟩⟩⟩
theorem impl_PairFault.den (k : Nat) (x : Sig.In impl_PairFault.sg.ps) : denFn impl_PairFault.E k Go.Proofs.Try.f73 impl_PairFault.sg impl_PairFault.hd (runL k impl_PairFault.hd (impl_PairFault.lps k)) x = impl_PairFault.F k x := by kernel_rfl
theorem impl_PairFault.ok (k : Nat) : Contract Try.prog 73 impl_PairFault.sg (impl_PairFault.F k) := ok_of (E := impl_PairFault.E) (tysOk _ _) (eqsOk _) ⟨impl_NodeFault.ok k, impl_MailFault.ok k, impl_isNode.ok k, impl_EntryFault.ok k, impl_SettingsFault.ok k, impl_WireFault.ok k, trivial⟩ Try.func73 rfl (by kernel_rfl) (impl_PairFault.loops k) (impl_PairFault.den k)
def laws_FnExactPairFault.sg : Sig := ⟨[.b kPair], [(.bool, .rd)]⟩
def laws_FnExactPairFault.E : Env := ⟨tys, bys, [(70, ⟨laws_szPair.sg, laws_szPair.F⟩), (71, ⟨spec_PairFault.sg, spec_PairFault.F⟩), (72, ⟨laws_toPair.sg, laws_toPair.F⟩), (73, ⟨impl_PairFault.sg, impl_PairFault.F⟩), (74, ⟨laws_eqPair.sg, laws_eqPair.F⟩)], eqs⟩
def laws_FnExactPairFault.F (k : Nat) (x : ((((Int × (Int × (Int × Unit))) × (Int × ((List ((Int × (Int × Unit)) × (Int × (Int × (Int × (Bool × (Int × (Int × Unit)))))))) × ((List ((Int × (Int × Unit)) × (Int × (Int × (Int × (Bool × (Int × (Int × Unit)))))))) × Unit)))) × ((List (Int × (Bool × (Int × (Int × ((List (Int × ((Int × (Int × ((List Int) × Unit))) × Unit))) × (Int × (Int × (Int × (Int × Unit)))))))))) × ((List (Int × ((List Int) × (Int × ((List Int) × Unit))))) × ((List (Int × (Int × (Int × (Int × (Int × (Bool × ((Int × ((Int × (Int × ((List Int) × Unit))) × Unit)) × Unit)))))))) × ((List (Int × ((Int × (Int × ((List Int) × Unit))) × Unit))) × Unit))))) × Unit)) : Option ((Bool × Unit) × Unit) :=
  (laws_szPair.F k (x.1, (1048576 : Int), ())).bind fun y0 =>
  bif (decide ((y0.1.1 < (0 : Int)))) then
  (some ((true, ()), ()))
  else (laws_toPair.F k x).bind fun y1 =>
    (spec_PairFault.F k y1.1).bind fun y2 =>
    (laws_toPair.F k x).bind fun y3 =>
    (impl_PairFault.F k y3.1).bind fun y4 =>
    bif (y4.1.1 != y2.1.1) then
    (some ((false, ()), ()))
    else (laws_toPair.F k x).bind fun y5 =>
      (laws_eqPair.F k (y3.1.1, y5.1)).bind fun y6 =>
      bif (!y6.1.1) then
      (some ((false, ()), ()))
      else some ((true, ()), ())
def laws_FnExactPairFault.hd : Hints := ⟨[], [], [2], [0, 1, 3, 4, 5, 6], [(10, [0, 0, 2, 7, 15])]⟩
def laws_FnExactPairFault.lps (k : Nat) : List (Nat × Lp laws_FnExactPairFault.sg.Out) := []
theorem laws_FnExactPairFault.loops (k : Nat) : LoopsOk laws_FnExactPairFault.E k laws_FnExactPairFault.hd (laws_FnExactPairFault.lps k) (loopsOf (Go.Proofs.Try.f10.body.getD .skip)) := trivial
theorem laws_FnExactPairFault.den (k : Nat) (x : Sig.In laws_FnExactPairFault.sg.ps) : denFn laws_FnExactPairFault.E k Go.Proofs.Try.f10 laws_FnExactPairFault.sg laws_FnExactPairFault.hd (runL k laws_FnExactPairFault.hd (laws_FnExactPairFault.lps k)) x = laws_FnExactPairFault.F k x := by kernel_rfl
theorem laws_FnExactPairFault.ok (k : Nat) : Contract Try.prog 10 laws_FnExactPairFault.sg (laws_FnExactPairFault.F k) := ok_of (E := laws_FnExactPairFault.E) (tysOk _ _) (eqsOk _) ⟨laws_szPair.ok k, spec_PairFault.ok k, laws_toPair.ok k, impl_PairFault.ok k, laws_eqPair.ok k, trivial⟩ Try.func10 rfl (by kernel_rfl) (laws_FnExactPairFault.loops k) (laws_FnExactPairFault.den k)

end Go.Proofs.Ythnidahfdnnboaa
set_option linter.unusedVariables false
set_option linter.unusedSimpArgs false
namespace Go.Proofs.Ythnidahfdnnboaa
open Go Go.Dn
theorem laws_szByteS.tot (k : Nat) (x : List Int × Int × Unit) (hb : K.big (.sl (.int .u8)) x.1 ≤ 4294967296) (hk : K.big (.sl (.int .u8)) x.1 < k) (h0 : -1 ≤ x.2.1) (h1 : x.2.1 ≤ 4294967296) : ∃ c : Int, laws_szByteS.F k x = some ((c, ()), ()) ∧ -1 ≤ c ∧ c ≤ 4294967296 := by
  obtain ⟨x, l, _⟩ := x
  simp only at hb hk h0 h1
  have hl : x.length ≤ K.big (.sl (.int .u8)) x := big_len (e := (.int .u8)) x
  unfold laws_szByteS.F
  simp only [w64 (n := l - (x.length : Int)) (by omega) (by omega)]
  by_cases hc : l - (x.length : Int) < 0
  · exact ⟨-1, by simp [hc], by omega, by omega⟩
  · exact ⟨l - (x.length : Int), by simp [hc], by omega, by omega⟩
theorem laws_szEvent.tot (k : Nat) (x : (Int × (Int × (List Int × Unit))) × Int × Unit) (hb : K.big kEvent x.1 ≤ 4294967296) (hk : K.big kEvent x.1 < k) (h0 : -1 ≤ x.2.1) (h1 : x.2.1 ≤ 4294967296) : ∃ c : Int, laws_szEvent.F k x = some ((c, ()), ()) ∧ -1 ≤ c ∧ c ≤ 4294967296 := by
  obtain ⟨x, l, _⟩ := x
  simp only at hb hk h0 h1
  unfold laws_szEvent.F
  obtain ⟨c0, e0, l0, u0⟩ := laws_szByteS.tot k (x.2.2.1, l, ()) (by (try simp only [bigp, bigi, bigb, bigu, bigs, kerrorAddressString, kPrefix, kl1Src, kConfig, kFrame, kboundsError, kEvent, kAttrs, kWire, kSession, kEntry, kTold, kRule, kUpdate, kRoute, kAttrsResult, kWireResult, kToldResult, kRouteResult, kUpdatesResult, kLink, kNode, kSettings, kMail, kRouter, kMessage, kRouterResult, kNodeResult, kPair, kPairResult] at *); omega) (by (try simp only [bigp, bigi, bigb, bigu, bigs, kerrorAddressString, kPrefix, kl1Src, kConfig, kFrame, kboundsError, kEvent, kAttrs, kWire, kSession, kEntry, kTold, kRule, kUpdate, kRoute, kAttrsResult, kWireResult, kToldResult, kRouteResult, kUpdatesResult, kLink, kNode, kSettings, kMail, kRouter, kMessage, kRouterResult, kNodeResult, kPair, kPairResult] at *); omega) (by simp only; omega) (by simp only; omega)
  simp only [e0, Option.bind_some]
  by_cases g0 : c0 < 0
  · exact ⟨-1, by simp [g0], by omega, by omega⟩
  simp only [decide_eq_false g0, cond_false]
  exact ⟨c0, rfl, by omega, by omega⟩
theorem laws_szEntry.tot (k : Nat) (x : (Int × ((Int × (Int × (List Int × Unit))) × Unit)) × Int × Unit) (hb : K.big kEntry x.1 ≤ 4294967296) (hk : K.big kEntry x.1 < k) (h0 : -1 ≤ x.2.1) (h1 : x.2.1 ≤ 4294967296) : ∃ c : Int, laws_szEntry.F k x = some ((c, ()), ()) ∧ -1 ≤ c ∧ c ≤ 4294967296 := by
  obtain ⟨x, l, _⟩ := x
  simp only at hb hk h0 h1
  unfold laws_szEntry.F
  obtain ⟨c0, e0, l0, u0⟩ := laws_szEvent.tot k (x.2.1, l, ()) (by (try simp only [bigp, bigi, bigb, bigu, bigs, kerrorAddressString, kPrefix, kl1Src, kConfig, kFrame, kboundsError, kEvent, kAttrs, kWire, kSession, kEntry, kTold, kRule, kUpdate, kRoute, kAttrsResult, kWireResult, kToldResult, kRouteResult, kUpdatesResult, kLink, kNode, kSettings, kMail, kRouter, kMessage, kRouterResult, kNodeResult, kPair, kPairResult] at *); omega) (by (try simp only [bigp, bigi, bigb, bigu, bigs, kerrorAddressString, kPrefix, kl1Src, kConfig, kFrame, kboundsError, kEvent, kAttrs, kWire, kSession, kEntry, kTold, kRule, kUpdate, kRoute, kAttrsResult, kWireResult, kToldResult, kRouteResult, kUpdatesResult, kLink, kNode, kSettings, kMail, kRouter, kMessage, kRouterResult, kNodeResult, kPair, kPairResult] at *); omega) (by simp only; omega) (by simp only; omega)
  simp only [e0, Option.bind_some]
  by_cases g0 : c0 < 0
  · exact ⟨-1, by simp [g0], by omega, by omega⟩
  simp only [decide_eq_false g0, cond_false]
  exact ⟨c0, rfl, by omega, by omega⟩
theorem laws_szMail.tot (k : Nat) (x : (Int × (Int × (Int × (Int × (Int × (Bool × ((Int × ((Int × (Int × (List Int × Unit))) × Unit)) × Unit))))))) × Int × Unit) (hb : K.big kMail x.1 ≤ 4294967296) (hk : K.big kMail x.1 < k) (h0 : -1 ≤ x.2.1) (h1 : x.2.1 ≤ 4294967296) : ∃ c : Int, laws_szMail.F k x = some ((c, ()), ()) ∧ -1 ≤ c ∧ c ≤ 4294967296 := by
  obtain ⟨x, l, _⟩ := x
  simp only at hb hk h0 h1
  unfold laws_szMail.F
  obtain ⟨c0, e0, l0, u0⟩ := laws_szEntry.tot k (x.2.2.2.2.2.2.1, l, ()) (by (try simp only [bigp, bigi, bigb, bigu, bigs, kerrorAddressString, kPrefix, kl1Src, kConfig, kFrame, kboundsError, kEvent, kAttrs, kWire, kSession, kEntry, kTold, kRule, kUpdate, kRoute, kAttrsResult, kWireResult, kToldResult, kRouteResult, kUpdatesResult, kLink, kNode, kSettings, kMail, kRouter, kMessage, kRouterResult, kNodeResult, kPair, kPairResult] at *); omega) (by (try simp only [bigp, bigi, bigb, bigu, bigs, kerrorAddressString, kPrefix, kl1Src, kConfig, kFrame, kboundsError, kEvent, kAttrs, kWire, kSession, kEntry, kTold, kRule, kUpdate, kRoute, kAttrsResult, kWireResult, kToldResult, kRouteResult, kUpdatesResult, kLink, kNode, kSettings, kMail, kRouter, kMessage, kRouterResult, kNodeResult, kPair, kPairResult] at *); omega) (by simp only; omega) (by simp only; omega)
  simp only [e0, Option.bind_some]
  by_cases g0 : c0 < 0
  · exact ⟨-1, by simp [g0], by omega, by omega⟩
  simp only [decide_eq_false g0, cond_false]
  exact ⟨c0, rfl, by omega, by omega⟩
theorem laws_szMailS.tot (k : Nat) (x : List (Int × (Int × (Int × (Int × (Int × (Bool × ((Int × ((Int × (Int × (List Int × Unit))) × Unit)) × Unit))))))) × Int × Unit) (hb : K.big (.sl kMail) x.1 ≤ 4294967296) (hk : K.big (.sl kMail) x.1 < k) (h0 : -1 ≤ x.2.1) (h1 : x.2.1 ≤ 4294967296) : ∃ c : Int, laws_szMailS.F k x = some ((c, ()), ()) ∧ -1 ≤ c ∧ c ≤ 4294967296 := by
  obtain ⟨x, l, _⟩ := x
  simp only at hb hk h0 h1
  have hl : x.length ≤ K.big (.sl kMail) x := big_len (e := kMail) x
  unfold laws_szMailS.F
  simp only [w64 (n := l - (x.length : Int)) (by omega) (by omega)]
  by_cases hc : l - (x.length : Int) < 0
  · exact ⟨-1, by simp [hc], by omega, by omega⟩
  · rw [decide_eq_false hc, cond_false]
    have key : ∀ (d n : Nat) (s : Int) (i : Nat), x.length - i = d → d < n → i ≤ x.length → 0 ≤ s → s ≤ 4294967296 → ∃ c : Int, laws_szMailS.l5 (ρ := (Int × Unit) × Unit) k (fun e => some (e, ())) (fun e => some (e, ())) n x s (i : Int) = some ((c, ()), ()) ∧ -1 ≤ c ∧ c ≤ 4294967296 := by
      intro d
      induction d with
      | zero =>
        intro n s i hd hn hi h0 h1
        obtain ⟨n, rfl⟩ : ∃ m, n = m + 1 := ⟨n - 1, by omega⟩
        obtain rfl : i = x.length := by omega
        exact ⟨s, by simp only [laws_szMailS.l5, lt_dec_f, cond_false], by omega, h1⟩
      | succ d ih =>
        intro n s i hd hn hi h0 h1
        obtain ⟨n, rfl⟩ : ∃ m, n = m + 1 := ⟨n - 1, by omega⟩
        have hi' : i < x.length := by omega
        have hm : K.big kMail x[i] + 1 ≤ K.big (.sl kMail) x := big_mem (e := kMail) (l := x) (List.getElem_mem hi')
        obtain ⟨c, e1, l1, u1⟩ := laws_szMail.tot k (x[i], s, ()) (by simp only; omega) (by simp only; omega) (by simp only; omega) (by simp only; omega)
        by_cases g : c < 0
        · exact ⟨-1, by simp only [laws_szMailS.l5, lt_dec hi', inBn hi', cond_true, share_eq, getD_get _ hi', e1, Option.bind_some, decide_eq_true g], by omega, by omega⟩
        · obtain ⟨c2, e2, l2, u2⟩ := ih n c (i + 1) (by omega) (by omega) (by omega) (by omega) u1
          refine ⟨c2, ?_, l2, u2⟩
          simp only [laws_szMailS.l5, lt_dec hi', inBn hi', cond_true, share_eq, getD_get _ hi', e1, Option.bind_some, decide_eq_false g, cond_false]
          rw [next_i (by omega)]
          exact e2
    exact key x.length k _ 0 rfl (by omega) (Nat.zero_le _) (by omega) (by omega)
theorem laws_szEntryS.tot (k : Nat) (x : List (Int × ((Int × (Int × (List Int × Unit))) × Unit)) × Int × Unit) (hb : K.big (.sl kEntry) x.1 ≤ 4294967296) (hk : K.big (.sl kEntry) x.1 < k) (h0 : -1 ≤ x.2.1) (h1 : x.2.1 ≤ 4294967296) : ∃ c : Int, laws_szEntryS.F k x = some ((c, ()), ()) ∧ -1 ≤ c ∧ c ≤ 4294967296 := by
  obtain ⟨x, l, _⟩ := x
  simp only at hb hk h0 h1
  have hl : x.length ≤ K.big (.sl kEntry) x := big_len (e := kEntry) x
  unfold laws_szEntryS.F
  simp only [w64 (n := l - (x.length : Int)) (by omega) (by omega)]
  by_cases hc : l - (x.length : Int) < 0
  · exact ⟨-1, by simp [hc], by omega, by omega⟩
  · rw [decide_eq_false hc, cond_false]
    have key : ∀ (d n : Nat) (s : Int) (i : Nat), x.length - i = d → d < n → i ≤ x.length → 0 ≤ s → s ≤ 4294967296 → ∃ c : Int, laws_szEntryS.l5 (ρ := (Int × Unit) × Unit) k (fun e => some (e, ())) (fun e => some (e, ())) n x s (i : Int) = some ((c, ()), ()) ∧ -1 ≤ c ∧ c ≤ 4294967296 := by
      intro d
      induction d with
      | zero =>
        intro n s i hd hn hi h0 h1
        obtain ⟨n, rfl⟩ : ∃ m, n = m + 1 := ⟨n - 1, by omega⟩
        obtain rfl : i = x.length := by omega
        exact ⟨s, by simp only [laws_szEntryS.l5, lt_dec_f, cond_false], by omega, h1⟩
      | succ d ih =>
        intro n s i hd hn hi h0 h1
        obtain ⟨n, rfl⟩ : ∃ m, n = m + 1 := ⟨n - 1, by omega⟩
        have hi' : i < x.length := by omega
        have hm : K.big kEntry x[i] + 1 ≤ K.big (.sl kEntry) x := big_mem (e := kEntry) (l := x) (List.getElem_mem hi')
        obtain ⟨c, e1, l1, u1⟩ := laws_szEntry.tot k (x[i], s, ()) (by simp only; omega) (by simp only; omega) (by simp only; omega) (by simp only; omega)
        by_cases g : c < 0
        · exact ⟨-1, by simp only [laws_szEntryS.l5, lt_dec hi', inBn hi', cond_true, share_eq, getD_get _ hi', e1, Option.bind_some, decide_eq_true g], by omega, by omega⟩
        · obtain ⟨c2, e2, l2, u2⟩ := ih n c (i + 1) (by omega) (by omega) (by omega) (by omega) u1
          refine ⟨c2, ?_, l2, u2⟩
          simp only [laws_szEntryS.l5, lt_dec hi', inBn hi', cond_true, share_eq, getD_get _ hi', e1, Option.bind_some, decide_eq_false g, cond_false]
          rw [next_i (by omega)]
          exact e2
    exact key x.length k _ 0 rfl (by omega) (Nat.zero_le _) (by omega) (by omega)
theorem laws_szNode.tot (k : Nat) (x : (Int × (Bool × (Int × (Int × (List (Int × ((Int × (Int × (List Int × Unit))) × Unit)) × (Int × (Int × (Int × (Int × Unit))))))))) × Int × Unit) (hb : K.big kNode x.1 ≤ 4294967296) (hk : K.big kNode x.1 < k) (h0 : -1 ≤ x.2.1) (h1 : x.2.1 ≤ 4294967296) : ∃ c : Int, laws_szNode.F k x = some ((c, ()), ()) ∧ -1 ≤ c ∧ c ≤ 4294967296 := by
  obtain ⟨x, l, _⟩ := x
  simp only at hb hk h0 h1
  unfold laws_szNode.F
  obtain ⟨c0, e0, l0, u0⟩ := laws_szEntryS.tot k (x.2.2.2.2.1, l, ()) (by (try simp only [bigp, bigi, bigb, bigu, bigs, kerrorAddressString, kPrefix, kl1Src, kConfig, kFrame, kboundsError, kEvent, kAttrs, kWire, kSession, kEntry, kTold, kRule, kUpdate, kRoute, kAttrsResult, kWireResult, kToldResult, kRouteResult, kUpdatesResult, kLink, kNode, kSettings, kMail, kRouter, kMessage, kRouterResult, kNodeResult, kPair, kPairResult] at *); omega) (by (try simp only [bigp, bigi, bigb, bigu, bigs, kerrorAddressString, kPrefix, kl1Src, kConfig, kFrame, kboundsError, kEvent, kAttrs, kWire, kSession, kEntry, kTold, kRule, kUpdate, kRoute, kAttrsResult, kWireResult, kToldResult, kRouteResult, kUpdatesResult, kLink, kNode, kSettings, kMail, kRouter, kMessage, kRouterResult, kNodeResult, kPair, kPairResult] at *); omega) (by simp only; omega) (by simp only; omega)
  simp only [e0, Option.bind_some]
  by_cases g0 : c0 < 0
  · exact ⟨-1, by simp [g0], by omega, by omega⟩
  simp only [decide_eq_false g0, cond_false]
  exact ⟨c0, rfl, by omega, by omega⟩
theorem laws_szNodeS.tot (k : Nat) (x : List (Int × (Bool × (Int × (Int × (List (Int × ((Int × (Int × (List Int × Unit))) × Unit)) × (Int × (Int × (Int × (Int × Unit))))))))) × Int × Unit) (hb : K.big (.sl kNode) x.1 ≤ 4294967296) (hk : K.big (.sl kNode) x.1 < k) (h0 : -1 ≤ x.2.1) (h1 : x.2.1 ≤ 4294967296) : ∃ c : Int, laws_szNodeS.F k x = some ((c, ()), ()) ∧ -1 ≤ c ∧ c ≤ 4294967296 := by
  obtain ⟨x, l, _⟩ := x
  simp only at hb hk h0 h1
  have hl : x.length ≤ K.big (.sl kNode) x := big_len (e := kNode) x
  unfold laws_szNodeS.F
  simp only [w64 (n := l - (x.length : Int)) (by omega) (by omega)]
  by_cases hc : l - (x.length : Int) < 0
  · exact ⟨-1, by simp [hc], by omega, by omega⟩
  · rw [decide_eq_false hc, cond_false]
    have key : ∀ (d n : Nat) (s : Int) (i : Nat), x.length - i = d → d < n → i ≤ x.length → 0 ≤ s → s ≤ 4294967296 → ∃ c : Int, laws_szNodeS.l5 (ρ := (Int × Unit) × Unit) k (fun e => some (e, ())) (fun e => some (e, ())) n x s (i : Int) = some ((c, ()), ()) ∧ -1 ≤ c ∧ c ≤ 4294967296 := by
      intro d
      induction d with
      | zero =>
        intro n s i hd hn hi h0 h1
        obtain ⟨n, rfl⟩ : ∃ m, n = m + 1 := ⟨n - 1, by omega⟩
        obtain rfl : i = x.length := by omega
        exact ⟨s, by simp only [laws_szNodeS.l5, lt_dec_f, cond_false], by omega, h1⟩
      | succ d ih =>
        intro n s i hd hn hi h0 h1
        obtain ⟨n, rfl⟩ : ∃ m, n = m + 1 := ⟨n - 1, by omega⟩
        have hi' : i < x.length := by omega
        have hm : K.big kNode x[i] + 1 ≤ K.big (.sl kNode) x := big_mem (e := kNode) (l := x) (List.getElem_mem hi')
        obtain ⟨c, e1, l1, u1⟩ := laws_szNode.tot k (x[i], s, ()) (by simp only; omega) (by simp only; omega) (by simp only; omega) (by simp only; omega)
        by_cases g : c < 0
        · exact ⟨-1, by simp only [laws_szNodeS.l5, lt_dec hi', inBn hi', cond_true, share_eq, getD_get _ hi', e1, Option.bind_some, decide_eq_true g], by omega, by omega⟩
        · obtain ⟨c2, e2, l2, u2⟩ := ih n c (i + 1) (by omega) (by omega) (by omega) (by omega) u1
          refine ⟨c2, ?_, l2, u2⟩
          simp only [laws_szNodeS.l5, lt_dec hi', inBn hi', cond_true, share_eq, getD_get _ hi', e1, Option.bind_some, decide_eq_false g, cond_false]
          rw [next_i (by omega)]
          exact e2
    exact key x.length k _ 0 rfl (by omega) (Nat.zero_le _) (by omega) (by omega)
theorem laws_szWire.tot (k : Nat) (x : (Int × (List Int × (Int × (List Int × Unit)))) × Int × Unit) (hb : K.big kWire x.1 ≤ 4294967296) (hk : K.big kWire x.1 < k) (h0 : -1 ≤ x.2.1) (h1 : x.2.1 ≤ 4294967296) : ∃ c : Int, laws_szWire.F k x = some ((c, ()), ()) ∧ -1 ≤ c ∧ c ≤ 4294967296 := by
  obtain ⟨x, l, _⟩ := x
  simp only at hb hk h0 h1
  unfold laws_szWire.F
  obtain ⟨c0, e0, l0, u0⟩ := laws_szByteS.tot k (x.2.1, l, ()) (by (try simp only [bigp, bigi, bigb, bigu, bigs, kerrorAddressString, kPrefix, kl1Src, kConfig, kFrame, kboundsError, kEvent, kAttrs, kWire, kSession, kEntry, kTold, kRule, kUpdate, kRoute, kAttrsResult, kWireResult, kToldResult, kRouteResult, kUpdatesResult, kLink, kNode, kSettings, kMail, kRouter, kMessage, kRouterResult, kNodeResult, kPair, kPairResult] at *); omega) (by (try simp only [bigp, bigi, bigb, bigu, bigs, kerrorAddressString, kPrefix, kl1Src, kConfig, kFrame, kboundsError, kEvent, kAttrs, kWire, kSession, kEntry, kTold, kRule, kUpdate, kRoute, kAttrsResult, kWireResult, kToldResult, kRouteResult, kUpdatesResult, kLink, kNode, kSettings, kMail, kRouter, kMessage, kRouterResult, kNodeResult, kPair, kPairResult] at *); omega) (by simp only; omega) (by simp only; omega)
  simp only [e0, Option.bind_some]
  by_cases g0 : c0 < 0
  · exact ⟨-1, by simp [g0], by omega, by omega⟩
  simp only [decide_eq_false g0, cond_false]
  obtain ⟨c1, e1, l1, u1⟩ := laws_szByteS.tot k (x.2.2.2.1, c0, ()) (by (try simp only [bigp, bigi, bigb, bigu, bigs, kerrorAddressString, kPrefix, kl1Src, kConfig, kFrame, kboundsError, kEvent, kAttrs, kWire, kSession, kEntry, kTold, kRule, kUpdate, kRoute, kAttrsResult, kWireResult, kToldResult, kRouteResult, kUpdatesResult, kLink, kNode, kSettings, kMail, kRouter, kMessage, kRouterResult, kNodeResult, kPair, kPairResult] at *); omega) (by (try simp only [bigp, bigi, bigb, bigu, bigs, kerrorAddressString, kPrefix, kl1Src, kConfig, kFrame, kboundsError, kEvent, kAttrs, kWire, kSession, kEntry, kTold, kRule, kUpdate, kRoute, kAttrsResult, kWireResult, kToldResult, kRouteResult, kUpdatesResult, kLink, kNode, kSettings, kMail, kRouter, kMessage, kRouterResult, kNodeResult, kPair, kPairResult] at *); omega) (by simp only; omega) (by simp only; omega)
  simp only [e1, Option.bind_some]
  by_cases g1 : c1 < 0
  · exact ⟨-1, by simp [g1], by omega, by omega⟩
  simp only [decide_eq_false g1, cond_false]
  exact ⟨c1, rfl, by omega, by omega⟩
theorem laws_szWireS.tot (k : Nat) (x : List (Int × (List Int × (Int × (List Int × Unit)))) × Int × Unit) (hb : K.big (.sl kWire) x.1 ≤ 4294967296) (hk : K.big (.sl kWire) x.1 < k) (h0 : -1 ≤ x.2.1) (h1 : x.2.1 ≤ 4294967296) : ∃ c : Int, laws_szWireS.F k x = some ((c, ()), ()) ∧ -1 ≤ c ∧ c ≤ 4294967296 := by
  obtain ⟨x, l, _⟩ := x
  simp only at hb hk h0 h1
  have hl : x.length ≤ K.big (.sl kWire) x := big_len (e := kWire) x
  unfold laws_szWireS.F
  simp only [w64 (n := l - (x.length : Int)) (by omega) (by omega)]
  by_cases hc : l - (x.length : Int) < 0
  · exact ⟨-1, by simp [hc], by omega, by omega⟩
  · rw [decide_eq_false hc, cond_false]
    have key : ∀ (d n : Nat) (s : Int) (i : Nat), x.length - i = d → d < n → i ≤ x.length → 0 ≤ s → s ≤ 4294967296 → ∃ c : Int, laws_szWireS.l5 (ρ := (Int × Unit) × Unit) k (fun e => some (e, ())) (fun e => some (e, ())) n x s (i : Int) = some ((c, ()), ()) ∧ -1 ≤ c ∧ c ≤ 4294967296 := by
      intro d
      induction d with
      | zero =>
        intro n s i hd hn hi h0 h1
        obtain ⟨n, rfl⟩ : ∃ m, n = m + 1 := ⟨n - 1, by omega⟩
        obtain rfl : i = x.length := by omega
        exact ⟨s, by simp only [laws_szWireS.l5, lt_dec_f, cond_false], by omega, h1⟩
      | succ d ih =>
        intro n s i hd hn hi h0 h1
        obtain ⟨n, rfl⟩ : ∃ m, n = m + 1 := ⟨n - 1, by omega⟩
        have hi' : i < x.length := by omega
        have hm : K.big kWire x[i] + 1 ≤ K.big (.sl kWire) x := big_mem (e := kWire) (l := x) (List.getElem_mem hi')
        obtain ⟨c, e1, l1, u1⟩ := laws_szWire.tot k (x[i], s, ()) (by simp only; omega) (by simp only; omega) (by simp only; omega) (by simp only; omega)
        by_cases g : c < 0
        · exact ⟨-1, by simp only [laws_szWireS.l5, lt_dec hi', inBn hi', cond_true, share_eq, getD_get _ hi', e1, Option.bind_some, decide_eq_true g], by omega, by omega⟩
        · obtain ⟨c2, e2, l2, u2⟩ := ih n c (i + 1) (by omega) (by omega) (by omega) (by omega) u1
          refine ⟨c2, ?_, l2, u2⟩
          simp only [laws_szWireS.l5, lt_dec hi', inBn hi', cond_true, share_eq, getD_get _ hi', e1, Option.bind_some, decide_eq_false g, cond_false]
          rw [next_i (by omega)]
          exact e2
    exact key x.length k _ 0 rfl (by omega) (Nat.zero_le _) (by omega) (by omega)
theorem laws_szRuleS.tot (k : Nat) (x : List ((Int × (Int × Unit)) × (Int × (Int × (Int × (Bool × (Int × (Int × Unit))))))) × Int × Unit) (hb : K.big (.sl kRule) x.1 ≤ 4294967296) (hk : K.big (.sl kRule) x.1 < k) (h0 : -1 ≤ x.2.1) (h1 : x.2.1 ≤ 4294967296) : ∃ c : Int, laws_szRuleS.F k x = some ((c, ()), ()) ∧ -1 ≤ c ∧ c ≤ 4294967296 := by
  obtain ⟨x, l, _⟩ := x
  simp only at hb hk h0 h1
  have hl : x.length ≤ K.big (.sl kRule) x := big_len (e := kRule) x
  unfold laws_szRuleS.F
  simp only [w64 (n := l - (x.length : Int)) (by omega) (by omega)]
  by_cases hc : l - (x.length : Int) < 0
  · exact ⟨-1, by simp [hc], by omega, by omega⟩
  · exact ⟨l - (x.length : Int), by simp [hc], by omega, by omega⟩
theorem laws_szSettings.tot (k : Nat) (x : ((Int × (Int × (Int × Unit))) × (Int × (List ((Int × (Int × Unit)) × (Int × (Int × (Int × (Bool × (Int × (Int × Unit))))))) × (List ((Int × (Int × Unit)) × (Int × (Int × (Int × (Bool × (Int × (Int × Unit))))))) × Unit)))) × Int × Unit) (hb : K.big kSettings x.1 ≤ 4294967296) (hk : K.big kSettings x.1 < k) (h0 : -1 ≤ x.2.1) (h1 : x.2.1 ≤ 4294967296) : ∃ c : Int, laws_szSettings.F k x = some ((c, ()), ()) ∧ -1 ≤ c ∧ c ≤ 4294967296 := by
  obtain ⟨x, l, _⟩ := x
  simp only at hb hk h0 h1
  unfold laws_szSettings.F
  obtain ⟨c0, e0, l0, u0⟩ := laws_szRuleS.tot k (x.2.2.1, l, ()) (by (try simp only [bigp, bigi, bigb, bigu, bigs, kerrorAddressString, kPrefix, kl1Src, kConfig, kFrame, kboundsError, kEvent, kAttrs, kWire, kSession, kEntry, kTold, kRule, kUpdate, kRoute, kAttrsResult, kWireResult, kToldResult, kRouteResult, kUpdatesResult, kLink, kNode, kSettings, kMail, kRouter, kMessage, kRouterResult, kNodeResult, kPair, kPairResult] at *); omega) (by (try simp only [bigp, bigi, bigb, bigu, bigs, kerrorAddressString, kPrefix, kl1Src, kConfig, kFrame, kboundsError, kEvent, kAttrs, kWire, kSession, kEntry, kTold, kRule, kUpdate, kRoute, kAttrsResult, kWireResult, kToldResult, kRouteResult, kUpdatesResult, kLink, kNode, kSettings, kMail, kRouter, kMessage, kRouterResult, kNodeResult, kPair, kPairResult] at *); omega) (by simp only; omega) (by simp only; omega)
  simp only [e0, Option.bind_some]
  by_cases g0 : c0 < 0
  · exact ⟨-1, by simp [g0], by omega, by omega⟩
  simp only [decide_eq_false g0, cond_false]
  obtain ⟨c1, e1, l1, u1⟩ := laws_szRuleS.tot k (x.2.2.2.1, c0, ()) (by (try simp only [bigp, bigi, bigb, bigu, bigs, kerrorAddressString, kPrefix, kl1Src, kConfig, kFrame, kboundsError, kEvent, kAttrs, kWire, kSession, kEntry, kTold, kRule, kUpdate, kRoute, kAttrsResult, kWireResult, kToldResult, kRouteResult, kUpdatesResult, kLink, kNode, kSettings, kMail, kRouter, kMessage, kRouterResult, kNodeResult, kPair, kPairResult] at *); omega) (by (try simp only [bigp, bigi, bigb, bigu, bigs, kerrorAddressString, kPrefix, kl1Src, kConfig, kFrame, kboundsError, kEvent, kAttrs, kWire, kSession, kEntry, kTold, kRule, kUpdate, kRoute, kAttrsResult, kWireResult, kToldResult, kRouteResult, kUpdatesResult, kLink, kNode, kSettings, kMail, kRouter, kMessage, kRouterResult, kNodeResult, kPair, kPairResult] at *); omega) (by simp only; omega) (by simp only; omega)
  simp only [e1, Option.bind_some]
  by_cases g1 : c1 < 0
  · exact ⟨-1, by simp [g1], by omega, by omega⟩
  simp only [decide_eq_false g1, cond_false]
  exact ⟨c1, rfl, by omega, by omega⟩
theorem laws_szPair.tot (k : Nat) (x : (((Int × (Int × (Int × Unit))) × (Int × (List ((Int × (Int × Unit)) × (Int × (Int × (Int × (Bool × (Int × (Int × Unit))))))) × (List ((Int × (Int × Unit)) × (Int × (Int × (Int × (Bool × (Int × (Int × Unit))))))) × Unit)))) × (List (Int × (Bool × (Int × (Int × (List (Int × ((Int × (Int × (List Int × Unit))) × Unit)) × (Int × (Int × (Int × (Int × Unit))))))))) × (List (Int × (List Int × (Int × (List Int × Unit)))) × (List (Int × (Int × (Int × (Int × (Int × (Bool × ((Int × ((Int × (Int × (List Int × Unit))) × Unit)) × Unit))))))) × (List (Int × ((Int × (Int × (List Int × Unit))) × Unit)) × Unit))))) × Int × Unit) (hb : K.big kPair x.1 ≤ 4294967296) (hk : K.big kPair x.1 < k) (h0 : -1 ≤ x.2.1) (h1 : x.2.1 ≤ 4294967296) : ∃ c : Int, laws_szPair.F k x = some ((c, ()), ()) ∧ -1 ≤ c ∧ c ≤ 4294967296 := by
  obtain ⟨x, l, _⟩ := x
  simp only at hb hk h0 h1
  unfold laws_szPair.F
  obtain ⟨c0, e0, l0, u0⟩ := laws_szSettings.tot k (x.1, l, ()) (by (try simp only [bigp, bigi, bigb, bigu, bigs, kerrorAddressString, kPrefix, kl1Src, kConfig, kFrame, kboundsError, kEvent, kAttrs, kWire, kSession, kEntry, kTold, kRule, kUpdate, kRoute, kAttrsResult, kWireResult, kToldResult, kRouteResult, kUpdatesResult, kLink, kNode, kSettings, kMail, kRouter, kMessage, kRouterResult, kNodeResult, kPair, kPairResult] at *); omega) (by (try simp only [bigp, bigi, bigb, bigu, bigs, kerrorAddressString, kPrefix, kl1Src, kConfig, kFrame, kboundsError, kEvent, kAttrs, kWire, kSession, kEntry, kTold, kRule, kUpdate, kRoute, kAttrsResult, kWireResult, kToldResult, kRouteResult, kUpdatesResult, kLink, kNode, kSettings, kMail, kRouter, kMessage, kRouterResult, kNodeResult, kPair, kPairResult] at *); omega) (by simp only; omega) (by simp only; omega)
  simp only [e0, Option.bind_some]
  by_cases g0 : c0 < 0
  · exact ⟨-1, by simp [g0], by omega, by omega⟩
  simp only [decide_eq_false g0, cond_false]
  obtain ⟨c1, e1, l1, u1⟩ := laws_szNodeS.tot k (x.2.1, c0, ()) (by (try simp only [bigp, bigi, bigb, bigu, bigs, kerrorAddressString, kPrefix, kl1Src, kConfig, kFrame, kboundsError, kEvent, kAttrs, kWire, kSession, kEntry, kTold, kRule, kUpdate, kRoute, kAttrsResult, kWireResult, kToldResult, kRouteResult, kUpdatesResult, kLink, kNode, kSettings, kMail, kRouter, kMessage, kRouterResult, kNodeResult, kPair, kPairResult] at *); omega) (by (try simp only [bigp, bigi, bigb, bigu, bigs, kerrorAddressString, kPrefix, kl1Src, kConfig, kFrame, kboundsError, kEvent, kAttrs, kWire, kSession, kEntry, kTold, kRule, kUpdate, kRoute, kAttrsResult, kWireResult, kToldResult, kRouteResult, kUpdatesResult, kLink, kNode, kSettings, kMail, kRouter, kMessage, kRouterResult, kNodeResult, kPair, kPairResult] at *); omega) (by simp only; omega) (by simp only; omega)
  simp only [e1, Option.bind_some]
  by_cases g1 : c1 < 0
  · exact ⟨-1, by simp [g1], by omega, by omega⟩
  simp only [decide_eq_false g1, cond_false]
  obtain ⟨c2, e2, l2, u2⟩ := laws_szWireS.tot k (x.2.2.1, c1, ()) (by (try simp only [bigp, bigi, bigb, bigu, bigs, kerrorAddressString, kPrefix, kl1Src, kConfig, kFrame, kboundsError, kEvent, kAttrs, kWire, kSession, kEntry, kTold, kRule, kUpdate, kRoute, kAttrsResult, kWireResult, kToldResult, kRouteResult, kUpdatesResult, kLink, kNode, kSettings, kMail, kRouter, kMessage, kRouterResult, kNodeResult, kPair, kPairResult] at *); omega) (by (try simp only [bigp, bigi, bigb, bigu, bigs, kerrorAddressString, kPrefix, kl1Src, kConfig, kFrame, kboundsError, kEvent, kAttrs, kWire, kSession, kEntry, kTold, kRule, kUpdate, kRoute, kAttrsResult, kWireResult, kToldResult, kRouteResult, kUpdatesResult, kLink, kNode, kSettings, kMail, kRouter, kMessage, kRouterResult, kNodeResult, kPair, kPairResult] at *); omega) (by simp only; omega) (by simp only; omega)
  simp only [e2, Option.bind_some]
  by_cases g2 : c2 < 0
  · exact ⟨-1, by simp [g2], by omega, by omega⟩
  simp only [decide_eq_false g2, cond_false]
  obtain ⟨c3, e3, l3, u3⟩ := laws_szMailS.tot k (x.2.2.2.1, c2, ()) (by (try simp only [bigp, bigi, bigb, bigu, bigs, kerrorAddressString, kPrefix, kl1Src, kConfig, kFrame, kboundsError, kEvent, kAttrs, kWire, kSession, kEntry, kTold, kRule, kUpdate, kRoute, kAttrsResult, kWireResult, kToldResult, kRouteResult, kUpdatesResult, kLink, kNode, kSettings, kMail, kRouter, kMessage, kRouterResult, kNodeResult, kPair, kPairResult] at *); omega) (by (try simp only [bigp, bigi, bigb, bigu, bigs, kerrorAddressString, kPrefix, kl1Src, kConfig, kFrame, kboundsError, kEvent, kAttrs, kWire, kSession, kEntry, kTold, kRule, kUpdate, kRoute, kAttrsResult, kWireResult, kToldResult, kRouteResult, kUpdatesResult, kLink, kNode, kSettings, kMail, kRouter, kMessage, kRouterResult, kNodeResult, kPair, kPairResult] at *); omega) (by simp only; omega) (by simp only; omega)
  simp only [e3, Option.bind_some]
  by_cases g3 : c3 < 0
  · exact ⟨-1, by simp [g3], by omega, by omega⟩
  simp only [decide_eq_false g3, cond_false]
  obtain ⟨c4, e4, l4, u4⟩ := laws_szEntryS.tot k (x.2.2.2.2.1, c3, ()) (by (try simp only [bigp, bigi, bigb, bigu, bigs, kerrorAddressString, kPrefix, kl1Src, kConfig, kFrame, kboundsError, kEvent, kAttrs, kWire, kSession, kEntry, kTold, kRule, kUpdate, kRoute, kAttrsResult, kWireResult, kToldResult, kRouteResult, kUpdatesResult, kLink, kNode, kSettings, kMail, kRouter, kMessage, kRouterResult, kNodeResult, kPair, kPairResult] at *); omega) (by (try simp only [bigp, bigi, bigb, bigu, bigs, kerrorAddressString, kPrefix, kl1Src, kConfig, kFrame, kboundsError, kEvent, kAttrs, kWire, kSession, kEntry, kTold, kRule, kUpdate, kRoute, kAttrsResult, kWireResult, kToldResult, kRouteResult, kUpdatesResult, kLink, kNode, kSettings, kMail, kRouter, kMessage, kRouterResult, kNodeResult, kPair, kPairResult] at *); omega) (by simp only; omega) (by simp only; omega)
  simp only [e4, Option.bind_some]
  by_cases g4 : c4 < 0
  · exact ⟨-1, by simp [g4], by omega, by omega⟩
  simp only [decide_eq_false g4, cond_false]
  exact ⟨c4, rfl, by omega, by omega⟩
theorem laws_toByteS.eq (k : Nat) (x : List Int × Unit) (hb : K.big (.sl (.int .u8)) x.1 ≤ 4294967296) (hk : K.big (.sl (.int .u8)) x.1 < k) : laws_toByteS.F k x = some ((x.1, ()), ()) := by
  obtain ⟨x, _⟩ := x
  simp only at hb hk ⊢
  have hl : x.length ≤ K.big (.sl (.int .u8)) x := big_len (e := (.int .u8)) x
  unfold laws_toByteS.F
  simp only [Int.le_refl, decide_true, cond_true, Int.toNat_natCast]
  rw [roomy_le 4294967296 (by omega) (by decide), cond_true]
  refine loop_inv (len := x.length) (fun n i s => laws_toByteS.l3 k _ n x i s) (fun i s => s.length = x.length ∧ ∀ j, j < i → s[j]? = x[j]?) _ ?_ ?_ k 0 _ (Nat.zero_le _) ⟨by simp, fun j h => by omega⟩ (by omega)
  · rintro n s ⟨h1, h2⟩
    simp only [laws_toByteS.l3, lt_dec_f, cond_false]
    rw [all_eq h1 h2]
  · rintro n i s hi ⟨h1, h2⟩
    have hm : K.big (.int .u8) x[i] + 1 ≤ K.big (.sl (.int .u8)) x := big_mem (e := (.int .u8)) (l := x) (List.getElem_mem hi)
    refine ⟨s.set i x[i], ?_, set_keep h1 hi h2 (by simp [hi])⟩
    simp only [laws_toByteS.l3, lt_dec hi, inBn hi, cond_true, share_eq, getD_get _ hi]
    simp only [Option.bind_some, h1, inBn hi, cond_true, Int.toNat_natCast]
    rw [next_i (by omega)]
theorem laws_toWire.eq (k : Nat) (x : (Int × (List Int × (Int × (List Int × Unit)))) × Unit) (hb : K.big kWire x.1 ≤ 4294967296) (hk : K.big kWire x.1 < k) : laws_toWire.F k x = some ((x.1, ()), ()) := by
  obtain ⟨x, _⟩ := x
  unfold laws_toWire.F
  rw [laws_toByteS.eq k _ (by (try simp only [bigp, bigi, bigb, bigu, bigs, kerrorAddressString, kPrefix, kl1Src, kConfig, kFrame, kboundsError, kEvent, kAttrs, kWire, kSession, kEntry, kTold, kRule, kUpdate, kRoute, kAttrsResult, kWireResult, kToldResult, kRouteResult, kUpdatesResult, kLink, kNode, kSettings, kMail, kRouter, kMessage, kRouterResult, kNodeResult, kPair, kPairResult] at *); omega) (by (try simp only [bigp, bigi, bigb, bigu, bigs, kerrorAddressString, kPrefix, kl1Src, kConfig, kFrame, kboundsError, kEvent, kAttrs, kWire, kSession, kEntry, kTold, kRule, kUpdate, kRoute, kAttrsResult, kWireResult, kToldResult, kRouteResult, kUpdatesResult, kLink, kNode, kSettings, kMail, kRouter, kMessage, kRouterResult, kNodeResult, kPair, kPairResult] at *); omega)]
  simp only [Option.bind_some]
  rw [laws_toByteS.eq k _ (by (try simp only [bigp, bigi, bigb, bigu, bigs, kerrorAddressString, kPrefix, kl1Src, kConfig, kFrame, kboundsError, kEvent, kAttrs, kWire, kSession, kEntry, kTold, kRule, kUpdate, kRoute, kAttrsResult, kWireResult, kToldResult, kRouteResult, kUpdatesResult, kLink, kNode, kSettings, kMail, kRouter, kMessage, kRouterResult, kNodeResult, kPair, kPairResult] at *); omega) (by (try simp only [bigp, bigi, bigb, bigu, bigs, kerrorAddressString, kPrefix, kl1Src, kConfig, kFrame, kboundsError, kEvent, kAttrs, kWire, kSession, kEntry, kTold, kRule, kUpdate, kRoute, kAttrsResult, kWireResult, kToldResult, kRouteResult, kUpdatesResult, kLink, kNode, kSettings, kMail, kRouter, kMessage, kRouterResult, kNodeResult, kPair, kPairResult] at *); omega)]
  simp only [Option.bind_some]
theorem laws_toWireS.eq (k : Nat) (x : List (Int × (List Int × (Int × (List Int × Unit)))) × Unit) (hb : K.big (.sl kWire) x.1 ≤ 4294967296) (hk : K.big (.sl kWire) x.1 < k) : laws_toWireS.F k x = some ((x.1, ()), ()) := by
  obtain ⟨x, _⟩ := x
  simp only at hb hk ⊢
  have hl : x.length ≤ K.big (.sl kWire) x := big_len (e := kWire) x
  unfold laws_toWireS.F
  simp only [Int.le_refl, decide_true, cond_true, Int.toNat_natCast]
  rw [roomy_le 4294967296 (by omega) (by decide), cond_true]
  refine loop_inv (len := x.length) (fun n i s => laws_toWireS.l3 k _ n x i s) (fun i s => s.length = x.length ∧ ∀ j, j < i → s[j]? = x[j]?) _ ?_ ?_ k 0 _ (Nat.zero_le _) ⟨by simp, fun j h => by omega⟩ (by omega)
  · rintro n s ⟨h1, h2⟩
    simp only [laws_toWireS.l3, lt_dec_f, cond_false]
    rw [all_eq h1 h2]
  · rintro n i s hi ⟨h1, h2⟩
    have hm : K.big kWire x[i] + 1 ≤ K.big (.sl kWire) x := big_mem (e := kWire) (l := x) (List.getElem_mem hi)
    refine ⟨s.set i x[i], ?_, set_keep h1 hi h2 (by simp [hi])⟩
    simp only [laws_toWireS.l3, lt_dec hi, inBn hi, cond_true, share_eq, getD_get _ hi]
    rw [laws_toWire.eq k _ (by simp only; omega) (by simp only; omega)]
    simp only [Option.bind_some, h1, inBn hi, cond_true, Int.toNat_natCast]
    rw [next_i (by omega)]
theorem laws_toEvent.eq (k : Nat) (x : (Int × (Int × (List Int × Unit))) × Unit) (hb : K.big kEvent x.1 ≤ 4294967296) (hk : K.big kEvent x.1 < k) : laws_toEvent.F k x = some ((x.1, ()), ()) := by
  obtain ⟨x, _⟩ := x
  unfold laws_toEvent.F
  rw [laws_toByteS.eq k _ (by (try simp only [bigp, bigi, bigb, bigu, bigs, kerrorAddressString, kPrefix, kl1Src, kConfig, kFrame, kboundsError, kEvent, kAttrs, kWire, kSession, kEntry, kTold, kRule, kUpdate, kRoute, kAttrsResult, kWireResult, kToldResult, kRouteResult, kUpdatesResult, kLink, kNode, kSettings, kMail, kRouter, kMessage, kRouterResult, kNodeResult, kPair, kPairResult] at *); omega) (by (try simp only [bigp, bigi, bigb, bigu, bigs, kerrorAddressString, kPrefix, kl1Src, kConfig, kFrame, kboundsError, kEvent, kAttrs, kWire, kSession, kEntry, kTold, kRule, kUpdate, kRoute, kAttrsResult, kWireResult, kToldResult, kRouteResult, kUpdatesResult, kLink, kNode, kSettings, kMail, kRouter, kMessage, kRouterResult, kNodeResult, kPair, kPairResult] at *); omega)]
  simp only [Option.bind_some]
theorem laws_toEntry.eq (k : Nat) (x : (Int × ((Int × (Int × (List Int × Unit))) × Unit)) × Unit) (hb : K.big kEntry x.1 ≤ 4294967296) (hk : K.big kEntry x.1 < k) : laws_toEntry.F k x = some ((x.1, ()), ()) := by
  obtain ⟨x, _⟩ := x
  unfold laws_toEntry.F
  rw [laws_toEvent.eq k _ (by (try simp only [bigp, bigi, bigb, bigu, bigs, kerrorAddressString, kPrefix, kl1Src, kConfig, kFrame, kboundsError, kEvent, kAttrs, kWire, kSession, kEntry, kTold, kRule, kUpdate, kRoute, kAttrsResult, kWireResult, kToldResult, kRouteResult, kUpdatesResult, kLink, kNode, kSettings, kMail, kRouter, kMessage, kRouterResult, kNodeResult, kPair, kPairResult] at *); omega) (by (try simp only [bigp, bigi, bigb, bigu, bigs, kerrorAddressString, kPrefix, kl1Src, kConfig, kFrame, kboundsError, kEvent, kAttrs, kWire, kSession, kEntry, kTold, kRule, kUpdate, kRoute, kAttrsResult, kWireResult, kToldResult, kRouteResult, kUpdatesResult, kLink, kNode, kSettings, kMail, kRouter, kMessage, kRouterResult, kNodeResult, kPair, kPairResult] at *); omega)]
  simp only [Option.bind_some]
theorem laws_toEntryS.eq (k : Nat) (x : List (Int × ((Int × (Int × (List Int × Unit))) × Unit)) × Unit) (hb : K.big (.sl kEntry) x.1 ≤ 4294967296) (hk : K.big (.sl kEntry) x.1 < k) : laws_toEntryS.F k x = some ((x.1, ()), ()) := by
  obtain ⟨x, _⟩ := x
  simp only at hb hk ⊢
  have hl : x.length ≤ K.big (.sl kEntry) x := big_len (e := kEntry) x
  unfold laws_toEntryS.F
  simp only [Int.le_refl, decide_true, cond_true, Int.toNat_natCast]
  rw [roomy_le 4294967296 (by omega) (by decide), cond_true]
  refine loop_inv (len := x.length) (fun n i s => laws_toEntryS.l3 k _ n x i s) (fun i s => s.length = x.length ∧ ∀ j, j < i → s[j]? = x[j]?) _ ?_ ?_ k 0 _ (Nat.zero_le _) ⟨by simp, fun j h => by omega⟩ (by omega)
  · rintro n s ⟨h1, h2⟩
    simp only [laws_toEntryS.l3, lt_dec_f, cond_false]
    rw [all_eq h1 h2]
  · rintro n i s hi ⟨h1, h2⟩
    have hm : K.big kEntry x[i] + 1 ≤ K.big (.sl kEntry) x := big_mem (e := kEntry) (l := x) (List.getElem_mem hi)
    refine ⟨s.set i x[i], ?_, set_keep h1 hi h2 (by simp [hi])⟩
    simp only [laws_toEntryS.l3, lt_dec hi, inBn hi, cond_true, share_eq, getD_get _ hi]
    rw [laws_toEntry.eq k _ (by simp only; omega) (by simp only; omega)]
    simp only [Option.bind_some, h1, inBn hi, cond_true, Int.toNat_natCast]
    rw [next_i (by omega)]
theorem laws_toNode.eq (k : Nat) (x : (Int × (Bool × (Int × (Int × (List (Int × ((Int × (Int × (List Int × Unit))) × Unit)) × (Int × (Int × (Int × (Int × Unit))))))))) × Unit) (hb : K.big kNode x.1 ≤ 4294967296) (hk : K.big kNode x.1 < k) : laws_toNode.F k x = some ((x.1, ()), ()) := by
  obtain ⟨x, _⟩ := x
  unfold laws_toNode.F
  rw [laws_toEntryS.eq k _ (by (try simp only [bigp, bigi, bigb, bigu, bigs, kerrorAddressString, kPrefix, kl1Src, kConfig, kFrame, kboundsError, kEvent, kAttrs, kWire, kSession, kEntry, kTold, kRule, kUpdate, kRoute, kAttrsResult, kWireResult, kToldResult, kRouteResult, kUpdatesResult, kLink, kNode, kSettings, kMail, kRouter, kMessage, kRouterResult, kNodeResult, kPair, kPairResult] at *); omega) (by (try simp only [bigp, bigi, bigb, bigu, bigs, kerrorAddressString, kPrefix, kl1Src, kConfig, kFrame, kboundsError, kEvent, kAttrs, kWire, kSession, kEntry, kTold, kRule, kUpdate, kRoute, kAttrsResult, kWireResult, kToldResult, kRouteResult, kUpdatesResult, kLink, kNode, kSettings, kMail, kRouter, kMessage, kRouterResult, kNodeResult, kPair, kPairResult] at *); omega)]
  simp only [Option.bind_some]
theorem laws_toNodeS.eq (k : Nat) (x : List (Int × (Bool × (Int × (Int × (List (Int × ((Int × (Int × (List Int × Unit))) × Unit)) × (Int × (Int × (Int × (Int × Unit))))))))) × Unit) (hb : K.big (.sl kNode) x.1 ≤ 4294967296) (hk : K.big (.sl kNode) x.1 < k) : laws_toNodeS.F k x = some ((x.1, ()), ()) := by
  obtain ⟨x, _⟩ := x
  simp only at hb hk ⊢
  have hl : x.length ≤ K.big (.sl kNode) x := big_len (e := kNode) x
  unfold laws_toNodeS.F
  simp only [Int.le_refl, decide_true, cond_true, Int.toNat_natCast]
  rw [roomy_le 4294967296 (by omega) (by decide), cond_true]
  refine loop_inv (len := x.length) (fun n i s => laws_toNodeS.l3 k _ n x i s) (fun i s => s.length = x.length ∧ ∀ j, j < i → s[j]? = x[j]?) _ ?_ ?_ k 0 _ (Nat.zero_le _) ⟨by simp, fun j h => by omega⟩ (by omega)
  · rintro n s ⟨h1, h2⟩
    simp only [laws_toNodeS.l3, lt_dec_f, cond_false]
    rw [all_eq h1 h2]
  · rintro n i s hi ⟨h1, h2⟩
    have hm : K.big kNode x[i] + 1 ≤ K.big (.sl kNode) x := big_mem (e := kNode) (l := x) (List.getElem_mem hi)
    refine ⟨s.set i x[i], ?_, set_keep h1 hi h2 (by simp [hi])⟩
    simp only [laws_toNodeS.l3, lt_dec hi, inBn hi, cond_true, share_eq, getD_get _ hi]
    rw [laws_toNode.eq k _ (by simp only; omega) (by simp only; omega)]
    simp only [Option.bind_some, h1, inBn hi, cond_true, Int.toNat_natCast]
    rw [next_i (by omega)]
theorem laws_toMail.eq (k : Nat) (x : (Int × (Int × (Int × (Int × (Int × (Bool × ((Int × ((Int × (Int × (List Int × Unit))) × Unit)) × Unit))))))) × Unit) (hb : K.big kMail x.1 ≤ 4294967296) (hk : K.big kMail x.1 < k) : laws_toMail.F k x = some ((x.1, ()), ()) := by
  obtain ⟨x, _⟩ := x
  unfold laws_toMail.F
  rw [laws_toEntry.eq k _ (by (try simp only [bigp, bigi, bigb, bigu, bigs, kerrorAddressString, kPrefix, kl1Src, kConfig, kFrame, kboundsError, kEvent, kAttrs, kWire, kSession, kEntry, kTold, kRule, kUpdate, kRoute, kAttrsResult, kWireResult, kToldResult, kRouteResult, kUpdatesResult, kLink, kNode, kSettings, kMail, kRouter, kMessage, kRouterResult, kNodeResult, kPair, kPairResult] at *); omega) (by (try simp only [bigp, bigi, bigb, bigu, bigs, kerrorAddressString, kPrefix, kl1Src, kConfig, kFrame, kboundsError, kEvent, kAttrs, kWire, kSession, kEntry, kTold, kRule, kUpdate, kRoute, kAttrsResult, kWireResult, kToldResult, kRouteResult, kUpdatesResult, kLink, kNode, kSettings, kMail, kRouter, kMessage, kRouterResult, kNodeResult, kPair, kPairResult] at *); omega)]
  simp only [Option.bind_some]
theorem laws_toMailS.eq (k : Nat) (x : List (Int × (Int × (Int × (Int × (Int × (Bool × ((Int × ((Int × (Int × (List Int × Unit))) × Unit)) × Unit))))))) × Unit) (hb : K.big (.sl kMail) x.1 ≤ 4294967296) (hk : K.big (.sl kMail) x.1 < k) : laws_toMailS.F k x = some ((x.1, ()), ()) := by
  obtain ⟨x, _⟩ := x
  simp only at hb hk ⊢
  have hl : x.length ≤ K.big (.sl kMail) x := big_len (e := kMail) x
  unfold laws_toMailS.F
  simp only [Int.le_refl, decide_true, cond_true, Int.toNat_natCast]
  rw [roomy_le 4294967296 (by omega) (by decide), cond_true]
  refine loop_inv (len := x.length) (fun n i s => laws_toMailS.l3 k _ n x i s) (fun i s => s.length = x.length ∧ ∀ j, j < i → s[j]? = x[j]?) _ ?_ ?_ k 0 _ (Nat.zero_le _) ⟨by simp, fun j h => by omega⟩ (by omega)
  · rintro n s ⟨h1, h2⟩
    simp only [laws_toMailS.l3, lt_dec_f, cond_false]
    rw [all_eq h1 h2]
  · rintro n i s hi ⟨h1, h2⟩
    have hm : K.big kMail x[i] + 1 ≤ K.big (.sl kMail) x := big_mem (e := kMail) (l := x) (List.getElem_mem hi)
    refine ⟨s.set i x[i], ?_, set_keep h1 hi h2 (by simp [hi])⟩
    simp only [laws_toMailS.l3, lt_dec hi, inBn hi, cond_true, share_eq, getD_get _ hi]
    rw [laws_toMail.eq k _ (by simp only; omega) (by simp only; omega)]
    simp only [Option.bind_some, h1, inBn hi, cond_true, Int.toNat_natCast]
    rw [next_i (by omega)]
theorem laws_toConfig.eq (k : Nat) (x : (Int × (Int × (Int × Unit))) × Unit) (hb : K.big kConfig x.1 ≤ 4294967296) (hk : K.big kConfig x.1 < k) : laws_toConfig.F k x = some ((x.1, ()), ()) := by
  obtain ⟨x, _⟩ := x
  unfold laws_toConfig.F
  rfl
theorem laws_toPrefix.eq (k : Nat) (x : (Int × (Int × Unit)) × Unit) (hb : K.big kPrefix x.1 ≤ 4294967296) (hk : K.big kPrefix x.1 < k) : laws_toPrefix.F k x = some ((x.1, ()), ()) := by
  obtain ⟨x, _⟩ := x
  unfold laws_toPrefix.F
  rfl
theorem laws_toRule.eq (k : Nat) (x : ((Int × (Int × Unit)) × (Int × (Int × (Int × (Bool × (Int × (Int × Unit))))))) × Unit) (hb : K.big kRule x.1 ≤ 4294967296) (hk : K.big kRule x.1 < k) : laws_toRule.F k x = some ((x.1, ()), ()) := by
  obtain ⟨x, _⟩ := x
  unfold laws_toRule.F
  rw [laws_toPrefix.eq k _ (by (try simp only [bigp, bigi, bigb, bigu, bigs, kerrorAddressString, kPrefix, kl1Src, kConfig, kFrame, kboundsError, kEvent, kAttrs, kWire, kSession, kEntry, kTold, kRule, kUpdate, kRoute, kAttrsResult, kWireResult, kToldResult, kRouteResult, kUpdatesResult, kLink, kNode, kSettings, kMail, kRouter, kMessage, kRouterResult, kNodeResult, kPair, kPairResult] at *); omega) (by (try simp only [bigp, bigi, bigb, bigu, bigs, kerrorAddressString, kPrefix, kl1Src, kConfig, kFrame, kboundsError, kEvent, kAttrs, kWire, kSession, kEntry, kTold, kRule, kUpdate, kRoute, kAttrsResult, kWireResult, kToldResult, kRouteResult, kUpdatesResult, kLink, kNode, kSettings, kMail, kRouter, kMessage, kRouterResult, kNodeResult, kPair, kPairResult] at *); omega)]
  simp only [Option.bind_some]
theorem laws_toRuleS.eq (k : Nat) (x : List ((Int × (Int × Unit)) × (Int × (Int × (Int × (Bool × (Int × (Int × Unit))))))) × Unit) (hb : K.big (.sl kRule) x.1 ≤ 4294967296) (hk : K.big (.sl kRule) x.1 < k) : laws_toRuleS.F k x = some ((x.1, ()), ()) := by
  obtain ⟨x, _⟩ := x
  simp only at hb hk ⊢
  have hl : x.length ≤ K.big (.sl kRule) x := big_len (e := kRule) x
  unfold laws_toRuleS.F
  simp only [Int.le_refl, decide_true, cond_true, Int.toNat_natCast]
  rw [roomy_le 4294967296 (by omega) (by decide), cond_true]
  refine loop_inv (len := x.length) (fun n i s => laws_toRuleS.l3 k _ n x i s) (fun i s => s.length = x.length ∧ ∀ j, j < i → s[j]? = x[j]?) _ ?_ ?_ k 0 _ (Nat.zero_le _) ⟨by simp, fun j h => by omega⟩ (by omega)
  · rintro n s ⟨h1, h2⟩
    simp only [laws_toRuleS.l3, lt_dec_f, cond_false]
    rw [all_eq h1 h2]
  · rintro n i s hi ⟨h1, h2⟩
    have hm : K.big kRule x[i] + 1 ≤ K.big (.sl kRule) x := big_mem (e := kRule) (l := x) (List.getElem_mem hi)
    refine ⟨s.set i x[i], ?_, set_keep h1 hi h2 (by simp [hi])⟩
    simp only [laws_toRuleS.l3, lt_dec hi, inBn hi, cond_true, share_eq, getD_get _ hi]
    rw [laws_toRule.eq k _ (by simp only; omega) (by simp only; omega)]
    simp only [Option.bind_some, h1, inBn hi, cond_true, Int.toNat_natCast]
    rw [next_i (by omega)]
theorem laws_toSettings.eq (k : Nat) (x : ((Int × (Int × (Int × Unit))) × (Int × (List ((Int × (Int × Unit)) × (Int × (Int × (Int × (Bool × (Int × (Int × Unit))))))) × (List ((Int × (Int × Unit)) × (Int × (Int × (Int × (Bool × (Int × (Int × Unit))))))) × Unit)))) × Unit) (hb : K.big kSettings x.1 ≤ 4294967296) (hk : K.big kSettings x.1 < k) : laws_toSettings.F k x = some ((x.1, ()), ()) := by
  obtain ⟨x, _⟩ := x
  unfold laws_toSettings.F
  rw [laws_toConfig.eq k _ (by (try simp only [bigp, bigi, bigb, bigu, bigs, kerrorAddressString, kPrefix, kl1Src, kConfig, kFrame, kboundsError, kEvent, kAttrs, kWire, kSession, kEntry, kTold, kRule, kUpdate, kRoute, kAttrsResult, kWireResult, kToldResult, kRouteResult, kUpdatesResult, kLink, kNode, kSettings, kMail, kRouter, kMessage, kRouterResult, kNodeResult, kPair, kPairResult] at *); omega) (by (try simp only [bigp, bigi, bigb, bigu, bigs, kerrorAddressString, kPrefix, kl1Src, kConfig, kFrame, kboundsError, kEvent, kAttrs, kWire, kSession, kEntry, kTold, kRule, kUpdate, kRoute, kAttrsResult, kWireResult, kToldResult, kRouteResult, kUpdatesResult, kLink, kNode, kSettings, kMail, kRouter, kMessage, kRouterResult, kNodeResult, kPair, kPairResult] at *); omega)]
  simp only [Option.bind_some]
  rw [laws_toRuleS.eq k _ (by (try simp only [bigp, bigi, bigb, bigu, bigs, kerrorAddressString, kPrefix, kl1Src, kConfig, kFrame, kboundsError, kEvent, kAttrs, kWire, kSession, kEntry, kTold, kRule, kUpdate, kRoute, kAttrsResult, kWireResult, kToldResult, kRouteResult, kUpdatesResult, kLink, kNode, kSettings, kMail, kRouter, kMessage, kRouterResult, kNodeResult, kPair, kPairResult] at *); omega) (by (try simp only [bigp, bigi, bigb, bigu, bigs, kerrorAddressString, kPrefix, kl1Src, kConfig, kFrame, kboundsError, kEvent, kAttrs, kWire, kSession, kEntry, kTold, kRule, kUpdate, kRoute, kAttrsResult, kWireResult, kToldResult, kRouteResult, kUpdatesResult, kLink, kNode, kSettings, kMail, kRouter, kMessage, kRouterResult, kNodeResult, kPair, kPairResult] at *); omega)]
  simp only [Option.bind_some]
  rw [laws_toRuleS.eq k _ (by (try simp only [bigp, bigi, bigb, bigu, bigs, kerrorAddressString, kPrefix, kl1Src, kConfig, kFrame, kboundsError, kEvent, kAttrs, kWire, kSession, kEntry, kTold, kRule, kUpdate, kRoute, kAttrsResult, kWireResult, kToldResult, kRouteResult, kUpdatesResult, kLink, kNode, kSettings, kMail, kRouter, kMessage, kRouterResult, kNodeResult, kPair, kPairResult] at *); omega) (by (try simp only [bigp, bigi, bigb, bigu, bigs, kerrorAddressString, kPrefix, kl1Src, kConfig, kFrame, kboundsError, kEvent, kAttrs, kWire, kSession, kEntry, kTold, kRule, kUpdate, kRoute, kAttrsResult, kWireResult, kToldResult, kRouteResult, kUpdatesResult, kLink, kNode, kSettings, kMail, kRouter, kMessage, kRouterResult, kNodeResult, kPair, kPairResult] at *); omega)]
  simp only [Option.bind_some]
theorem laws_toPair.eq (k : Nat) (x : (((Int × (Int × (Int × Unit))) × (Int × (List ((Int × (Int × Unit)) × (Int × (Int × (Int × (Bool × (Int × (Int × Unit))))))) × (List ((Int × (Int × Unit)) × (Int × (Int × (Int × (Bool × (Int × (Int × Unit))))))) × Unit)))) × (List (Int × (Bool × (Int × (Int × (List (Int × ((Int × (Int × (List Int × Unit))) × Unit)) × (Int × (Int × (Int × (Int × Unit))))))))) × (List (Int × (List Int × (Int × (List Int × Unit)))) × (List (Int × (Int × (Int × (Int × (Int × (Bool × ((Int × ((Int × (Int × (List Int × Unit))) × Unit)) × Unit))))))) × (List (Int × ((Int × (Int × (List Int × Unit))) × Unit)) × Unit))))) × Unit) (hb : K.big kPair x.1 ≤ 4294967296) (hk : K.big kPair x.1 < k) : laws_toPair.F k x = some ((x.1, ()), ()) := by
  obtain ⟨x, _⟩ := x
  unfold laws_toPair.F
  rw [laws_toSettings.eq k _ (by (try simp only [bigp, bigi, bigb, bigu, bigs, kerrorAddressString, kPrefix, kl1Src, kConfig, kFrame, kboundsError, kEvent, kAttrs, kWire, kSession, kEntry, kTold, kRule, kUpdate, kRoute, kAttrsResult, kWireResult, kToldResult, kRouteResult, kUpdatesResult, kLink, kNode, kSettings, kMail, kRouter, kMessage, kRouterResult, kNodeResult, kPair, kPairResult] at *); omega) (by (try simp only [bigp, bigi, bigb, bigu, bigs, kerrorAddressString, kPrefix, kl1Src, kConfig, kFrame, kboundsError, kEvent, kAttrs, kWire, kSession, kEntry, kTold, kRule, kUpdate, kRoute, kAttrsResult, kWireResult, kToldResult, kRouteResult, kUpdatesResult, kLink, kNode, kSettings, kMail, kRouter, kMessage, kRouterResult, kNodeResult, kPair, kPairResult] at *); omega)]
  simp only [Option.bind_some]
  rw [laws_toNodeS.eq k _ (by (try simp only [bigp, bigi, bigb, bigu, bigs, kerrorAddressString, kPrefix, kl1Src, kConfig, kFrame, kboundsError, kEvent, kAttrs, kWire, kSession, kEntry, kTold, kRule, kUpdate, kRoute, kAttrsResult, kWireResult, kToldResult, kRouteResult, kUpdatesResult, kLink, kNode, kSettings, kMail, kRouter, kMessage, kRouterResult, kNodeResult, kPair, kPairResult] at *); omega) (by (try simp only [bigp, bigi, bigb, bigu, bigs, kerrorAddressString, kPrefix, kl1Src, kConfig, kFrame, kboundsError, kEvent, kAttrs, kWire, kSession, kEntry, kTold, kRule, kUpdate, kRoute, kAttrsResult, kWireResult, kToldResult, kRouteResult, kUpdatesResult, kLink, kNode, kSettings, kMail, kRouter, kMessage, kRouterResult, kNodeResult, kPair, kPairResult] at *); omega)]
  simp only [Option.bind_some]
  rw [laws_toWireS.eq k _ (by (try simp only [bigp, bigi, bigb, bigu, bigs, kerrorAddressString, kPrefix, kl1Src, kConfig, kFrame, kboundsError, kEvent, kAttrs, kWire, kSession, kEntry, kTold, kRule, kUpdate, kRoute, kAttrsResult, kWireResult, kToldResult, kRouteResult, kUpdatesResult, kLink, kNode, kSettings, kMail, kRouter, kMessage, kRouterResult, kNodeResult, kPair, kPairResult] at *); omega) (by (try simp only [bigp, bigi, bigb, bigu, bigs, kerrorAddressString, kPrefix, kl1Src, kConfig, kFrame, kboundsError, kEvent, kAttrs, kWire, kSession, kEntry, kTold, kRule, kUpdate, kRoute, kAttrsResult, kWireResult, kToldResult, kRouteResult, kUpdatesResult, kLink, kNode, kSettings, kMail, kRouter, kMessage, kRouterResult, kNodeResult, kPair, kPairResult] at *); omega)]
  simp only [Option.bind_some]
  rw [laws_toMailS.eq k _ (by (try simp only [bigp, bigi, bigb, bigu, bigs, kerrorAddressString, kPrefix, kl1Src, kConfig, kFrame, kboundsError, kEvent, kAttrs, kWire, kSession, kEntry, kTold, kRule, kUpdate, kRoute, kAttrsResult, kWireResult, kToldResult, kRouteResult, kUpdatesResult, kLink, kNode, kSettings, kMail, kRouter, kMessage, kRouterResult, kNodeResult, kPair, kPairResult] at *); omega) (by (try simp only [bigp, bigi, bigb, bigu, bigs, kerrorAddressString, kPrefix, kl1Src, kConfig, kFrame, kboundsError, kEvent, kAttrs, kWire, kSession, kEntry, kTold, kRule, kUpdate, kRoute, kAttrsResult, kWireResult, kToldResult, kRouteResult, kUpdatesResult, kLink, kNode, kSettings, kMail, kRouter, kMessage, kRouterResult, kNodeResult, kPair, kPairResult] at *); omega)]
  simp only [Option.bind_some]
  rw [laws_toEntryS.eq k _ (by (try simp only [bigp, bigi, bigb, bigu, bigs, kerrorAddressString, kPrefix, kl1Src, kConfig, kFrame, kboundsError, kEvent, kAttrs, kWire, kSession, kEntry, kTold, kRule, kUpdate, kRoute, kAttrsResult, kWireResult, kToldResult, kRouteResult, kUpdatesResult, kLink, kNode, kSettings, kMail, kRouter, kMessage, kRouterResult, kNodeResult, kPair, kPairResult] at *); omega) (by (try simp only [bigp, bigi, bigb, bigu, bigs, kerrorAddressString, kPrefix, kl1Src, kConfig, kFrame, kboundsError, kEvent, kAttrs, kWire, kSession, kEntry, kTold, kRule, kUpdate, kRoute, kAttrsResult, kWireResult, kToldResult, kRouteResult, kUpdatesResult, kLink, kNode, kSettings, kMail, kRouter, kMessage, kRouterResult, kNodeResult, kPair, kPairResult] at *); omega)]
  simp only [Option.bind_some]
theorem laws_eqByteS.refl (k : Nat) (x : List Int × List Int × Unit) (he : x.2.1 = x.1) (hb : K.big (.sl (.int .u8)) x.1 ≤ 4294967296) (hk : K.big (.sl (.int .u8)) x.1 < k) : laws_eqByteS.F k x = some ((true, ()), ()) := by
  obtain ⟨x, y, _⟩ := x
  simp only at he hb hk
  subst he
  have hl : y.length ≤ K.big (.sl (.int .u8)) y := big_len (e := (.int .u8)) y
  unfold laws_eqByteS.F
  simp only [bne_self_eq_false, cond_false]
  refine loop_inv (len := y.length) (fun n i (s : Unit) => laws_eqByteS.l4 k _ _ n y y i) (fun i s => True) _ ?_ ?_ k 0 () (Nat.zero_le _) trivial (by omega)
  · rintro n s -
    simp only [laws_eqByteS.l4, lt_dec_f, cond_false]
  · rintro n i s hi -
    have hm : K.big (.int .u8) y[i] + 1 ≤ K.big (.sl (.int .u8)) y := big_mem (e := (.int .u8)) (l := y) (List.getElem_mem hi)
    refine ⟨(), ?_, trivial⟩
    simp only [laws_eqByteS.l4, lt_dec hi, inBn hi, cond_true, share_eq, getD_get _ hi, bne_self_eq_false, cond_false]
    rw [next_i (by omega)]
theorem laws_eqEvent.refl (k : Nat) (x : (Int × (Int × (List Int × Unit))) × (Int × (Int × (List Int × Unit))) × Unit) (he : x.2.1 = x.1) (hb : K.big kEvent x.1 ≤ 4294967296) (hk : K.big kEvent x.1 < k) : laws_eqEvent.F k x = some ((true, ()), ()) := by
  obtain ⟨x, y, _⟩ := x
  simp only at he hb hk
  subst he
  unfold laws_eqEvent.F
  (try simp only [bne_self_eq_false, cond_false])
  rw [laws_eqByteS.refl k _ rfl (by (try simp only [bigp, bigi, bigb, bigu, bigs, kerrorAddressString, kPrefix, kl1Src, kConfig, kFrame, kboundsError, kEvent, kAttrs, kWire, kSession, kEntry, kTold, kRule, kUpdate, kRoute, kAttrsResult, kWireResult, kToldResult, kRouteResult, kUpdatesResult, kLink, kNode, kSettings, kMail, kRouter, kMessage, kRouterResult, kNodeResult, kPair, kPairResult] at *); omega) (by (try simp only [bigp, bigi, bigb, bigu, bigs, kerrorAddressString, kPrefix, kl1Src, kConfig, kFrame, kboundsError, kEvent, kAttrs, kWire, kSession, kEntry, kTold, kRule, kUpdate, kRoute, kAttrsResult, kWireResult, kToldResult, kRouteResult, kUpdatesResult, kLink, kNode, kSettings, kMail, kRouter, kMessage, kRouterResult, kNodeResult, kPair, kPairResult] at *); omega)]
  (try simp only [Option.bind_some, Bool.not_true, cond_false, bne_self_eq_false, BEq.rfl])
theorem laws_eqEntry.refl (k : Nat) (x : (Int × ((Int × (Int × (List Int × Unit))) × Unit)) × (Int × ((Int × (Int × (List Int × Unit))) × Unit)) × Unit) (he : x.2.1 = x.1) (hb : K.big kEntry x.1 ≤ 4294967296) (hk : K.big kEntry x.1 < k) : laws_eqEntry.F k x = some ((true, ()), ()) := by
  obtain ⟨x, y, _⟩ := x
  simp only at he hb hk
  subst he
  unfold laws_eqEntry.F
  (try simp only [bne_self_eq_false, cond_false])
  rw [laws_eqEvent.refl k _ rfl (by (try simp only [bigp, bigi, bigb, bigu, bigs, kerrorAddressString, kPrefix, kl1Src, kConfig, kFrame, kboundsError, kEvent, kAttrs, kWire, kSession, kEntry, kTold, kRule, kUpdate, kRoute, kAttrsResult, kWireResult, kToldResult, kRouteResult, kUpdatesResult, kLink, kNode, kSettings, kMail, kRouter, kMessage, kRouterResult, kNodeResult, kPair, kPairResult] at *); omega) (by (try simp only [bigp, bigi, bigb, bigu, bigs, kerrorAddressString, kPrefix, kl1Src, kConfig, kFrame, kboundsError, kEvent, kAttrs, kWire, kSession, kEntry, kTold, kRule, kUpdate, kRoute, kAttrsResult, kWireResult, kToldResult, kRouteResult, kUpdatesResult, kLink, kNode, kSettings, kMail, kRouter, kMessage, kRouterResult, kNodeResult, kPair, kPairResult] at *); omega)]
  (try simp only [Option.bind_some, Bool.not_true, cond_false, bne_self_eq_false, BEq.rfl])
theorem laws_eqEntryS.refl (k : Nat) (x : List (Int × ((Int × (Int × (List Int × Unit))) × Unit)) × List (Int × ((Int × (Int × (List Int × Unit))) × Unit)) × Unit) (he : x.2.1 = x.1) (hb : K.big (.sl kEntry) x.1 ≤ 4294967296) (hk : K.big (.sl kEntry) x.1 < k) : laws_eqEntryS.F k x = some ((true, ()), ()) := by
  obtain ⟨x, y, _⟩ := x
  simp only at he hb hk
  subst he
  have hl : y.length ≤ K.big (.sl kEntry) y := big_len (e := kEntry) y
  unfold laws_eqEntryS.F
  simp only [bne_self_eq_false, cond_false]
  refine loop_inv (len := y.length) (fun n i (s : Unit) => laws_eqEntryS.l4 k _ _ n y y i) (fun i s => True) _ ?_ ?_ k 0 () (Nat.zero_le _) trivial (by omega)
  · rintro n s -
    simp only [laws_eqEntryS.l4, lt_dec_f, cond_false]
  · rintro n i s hi -
    have hm : K.big kEntry y[i] + 1 ≤ K.big (.sl kEntry) y := big_mem (e := kEntry) (l := y) (List.getElem_mem hi)
    refine ⟨(), ?_, trivial⟩
    simp only [laws_eqEntryS.l4, lt_dec hi, inBn hi, cond_true, share_eq, getD_get _ hi, bne_self_eq_false, cond_false]
    rw [laws_eqEntry.refl k _ rfl (by simp only; omega) (by simp only; omega)]
    simp only [Option.bind_some, Bool.not_true, cond_false]
    rw [next_i (by omega)]
theorem laws_eqNode.refl (k : Nat) (x : (Int × (Bool × (Int × (Int × (List (Int × ((Int × (Int × (List Int × Unit))) × Unit)) × (Int × (Int × (Int × (Int × Unit))))))))) × (Int × (Bool × (Int × (Int × (List (Int × ((Int × (Int × (List Int × Unit))) × Unit)) × (Int × (Int × (Int × (Int × Unit))))))))) × Unit) (he : x.2.1 = x.1) (hb : K.big kNode x.1 ≤ 4294967296) (hk : K.big kNode x.1 < k) : laws_eqNode.F k x = some ((true, ()), ()) := by
  obtain ⟨x, y, _⟩ := x
  simp only at he hb hk
  subst he
  unfold laws_eqNode.F
  (try simp only [bne_self_eq_false, cond_false])
  rw [laws_eqEntryS.refl k _ rfl (by (try simp only [bigp, bigi, bigb, bigu, bigs, kerrorAddressString, kPrefix, kl1Src, kConfig, kFrame, kboundsError, kEvent, kAttrs, kWire, kSession, kEntry, kTold, kRule, kUpdate, kRoute, kAttrsResult, kWireResult, kToldResult, kRouteResult, kUpdatesResult, kLink, kNode, kSettings, kMail, kRouter, kMessage, kRouterResult, kNodeResult, kPair, kPairResult] at *); omega) (by (try simp only [bigp, bigi, bigb, bigu, bigs, kerrorAddressString, kPrefix, kl1Src, kConfig, kFrame, kboundsError, kEvent, kAttrs, kWire, kSession, kEntry, kTold, kRule, kUpdate, kRoute, kAttrsResult, kWireResult, kToldResult, kRouteResult, kUpdatesResult, kLink, kNode, kSettings, kMail, kRouter, kMessage, kRouterResult, kNodeResult, kPair, kPairResult] at *); omega)]
  (try simp only [Option.bind_some, Bool.not_true, cond_false, bne_self_eq_false, BEq.rfl])
theorem laws_eqNodeS.refl (k : Nat) (x : List (Int × (Bool × (Int × (Int × (List (Int × ((Int × (Int × (List Int × Unit))) × Unit)) × (Int × (Int × (Int × (Int × Unit))))))))) × List (Int × (Bool × (Int × (Int × (List (Int × ((Int × (Int × (List Int × Unit))) × Unit)) × (Int × (Int × (Int × (Int × Unit))))))))) × Unit) (he : x.2.1 = x.1) (hb : K.big (.sl kNode) x.1 ≤ 4294967296) (hk : K.big (.sl kNode) x.1 < k) : laws_eqNodeS.F k x = some ((true, ()), ()) := by
  obtain ⟨x, y, _⟩ := x
  simp only at he hb hk
  subst he
  have hl : y.length ≤ K.big (.sl kNode) y := big_len (e := kNode) y
  unfold laws_eqNodeS.F
  simp only [bne_self_eq_false, cond_false]
  refine loop_inv (len := y.length) (fun n i (s : Unit) => laws_eqNodeS.l4 k _ _ n y y i) (fun i s => True) _ ?_ ?_ k 0 () (Nat.zero_le _) trivial (by omega)
  · rintro n s -
    simp only [laws_eqNodeS.l4, lt_dec_f, cond_false]
  · rintro n i s hi -
    have hm : K.big kNode y[i] + 1 ≤ K.big (.sl kNode) y := big_mem (e := kNode) (l := y) (List.getElem_mem hi)
    refine ⟨(), ?_, trivial⟩
    simp only [laws_eqNodeS.l4, lt_dec hi, inBn hi, cond_true, share_eq, getD_get _ hi, bne_self_eq_false, cond_false]
    rw [laws_eqNode.refl k _ rfl (by simp only; omega) (by simp only; omega)]
    simp only [Option.bind_some, Bool.not_true, cond_false]
    rw [next_i (by omega)]
theorem laws_eqConfig.refl (k : Nat) (x : (Int × (Int × (Int × Unit))) × (Int × (Int × (Int × Unit))) × Unit) (he : x.2.1 = x.1) (hb : K.big kConfig x.1 ≤ 4294967296) (hk : K.big kConfig x.1 < k) : laws_eqConfig.F k x = some ((true, ()), ()) := by
  obtain ⟨x, y, _⟩ := x
  simp only at he hb hk
  subst he
  unfold laws_eqConfig.F
  (try simp only [bne_self_eq_false, cond_false])
  (try rfl)
theorem laws_eqPrefix.refl (k : Nat) (x : (Int × (Int × Unit)) × (Int × (Int × Unit)) × Unit) (he : x.2.1 = x.1) (hb : K.big kPrefix x.1 ≤ 4294967296) (hk : K.big kPrefix x.1 < k) : laws_eqPrefix.F k x = some ((true, ()), ()) := by
  obtain ⟨x, y, _⟩ := x
  simp only at he hb hk
  subst he
  unfold laws_eqPrefix.F
  (try simp only [bne_self_eq_false, cond_false])
  (try rfl)
theorem laws_eqRule.refl (k : Nat) (x : ((Int × (Int × Unit)) × (Int × (Int × (Int × (Bool × (Int × (Int × Unit))))))) × ((Int × (Int × Unit)) × (Int × (Int × (Int × (Bool × (Int × (Int × Unit))))))) × Unit) (he : x.2.1 = x.1) (hb : K.big kRule x.1 ≤ 4294967296) (hk : K.big kRule x.1 < k) : laws_eqRule.F k x = some ((true, ()), ()) := by
  obtain ⟨x, y, _⟩ := x
  simp only at he hb hk
  subst he
  unfold laws_eqRule.F
  (try simp only [bne_self_eq_false, cond_false])
  rw [laws_eqPrefix.refl k _ rfl (by (try simp only [bigp, bigi, bigb, bigu, bigs, kerrorAddressString, kPrefix, kl1Src, kConfig, kFrame, kboundsError, kEvent, kAttrs, kWire, kSession, kEntry, kTold, kRule, kUpdate, kRoute, kAttrsResult, kWireResult, kToldResult, kRouteResult, kUpdatesResult, kLink, kNode, kSettings, kMail, kRouter, kMessage, kRouterResult, kNodeResult, kPair, kPairResult] at *); omega) (by (try simp only [bigp, bigi, bigb, bigu, bigs, kerrorAddressString, kPrefix, kl1Src, kConfig, kFrame, kboundsError, kEvent, kAttrs, kWire, kSession, kEntry, kTold, kRule, kUpdate, kRoute, kAttrsResult, kWireResult, kToldResult, kRouteResult, kUpdatesResult, kLink, kNode, kSettings, kMail, kRouter, kMessage, kRouterResult, kNodeResult, kPair, kPairResult] at *); omega)]
  (try simp only [Option.bind_some, Bool.not_true, cond_false, bne_self_eq_false, BEq.rfl])
theorem laws_eqRuleS.refl (k : Nat) (x : List ((Int × (Int × Unit)) × (Int × (Int × (Int × (Bool × (Int × (Int × Unit))))))) × List ((Int × (Int × Unit)) × (Int × (Int × (Int × (Bool × (Int × (Int × Unit))))))) × Unit) (he : x.2.1 = x.1) (hb : K.big (.sl kRule) x.1 ≤ 4294967296) (hk : K.big (.sl kRule) x.1 < k) : laws_eqRuleS.F k x = some ((true, ()), ()) := by
  obtain ⟨x, y, _⟩ := x
  simp only at he hb hk
  subst he
  have hl : y.length ≤ K.big (.sl kRule) y := big_len (e := kRule) y
  unfold laws_eqRuleS.F
  simp only [bne_self_eq_false, cond_false]
  refine loop_inv (len := y.length) (fun n i (s : Unit) => laws_eqRuleS.l4 k _ _ n y y i) (fun i s => True) _ ?_ ?_ k 0 () (Nat.zero_le _) trivial (by omega)
  · rintro n s -
    simp only [laws_eqRuleS.l4, lt_dec_f, cond_false]
  · rintro n i s hi -
    have hm : K.big kRule y[i] + 1 ≤ K.big (.sl kRule) y := big_mem (e := kRule) (l := y) (List.getElem_mem hi)
    refine ⟨(), ?_, trivial⟩
    simp only [laws_eqRuleS.l4, lt_dec hi, inBn hi, cond_true, share_eq, getD_get _ hi, bne_self_eq_false, cond_false]
    rw [laws_eqRule.refl k _ rfl (by simp only; omega) (by simp only; omega)]
    simp only [Option.bind_some, Bool.not_true, cond_false]
    rw [next_i (by omega)]
theorem laws_eqSettings.refl (k : Nat) (x : ((Int × (Int × (Int × Unit))) × (Int × (List ((Int × (Int × Unit)) × (Int × (Int × (Int × (Bool × (Int × (Int × Unit))))))) × (List ((Int × (Int × Unit)) × (Int × (Int × (Int × (Bool × (Int × (Int × Unit))))))) × Unit)))) × ((Int × (Int × (Int × Unit))) × (Int × (List ((Int × (Int × Unit)) × (Int × (Int × (Int × (Bool × (Int × (Int × Unit))))))) × (List ((Int × (Int × Unit)) × (Int × (Int × (Int × (Bool × (Int × (Int × Unit))))))) × Unit)))) × Unit) (he : x.2.1 = x.1) (hb : K.big kSettings x.1 ≤ 4294967296) (hk : K.big kSettings x.1 < k) : laws_eqSettings.F k x = some ((true, ()), ()) := by
  obtain ⟨x, y, _⟩ := x
  simp only at he hb hk
  subst he
  unfold laws_eqSettings.F
  (try simp only [bne_self_eq_false, cond_false])
  rw [laws_eqConfig.refl k _ rfl (by (try simp only [bigp, bigi, bigb, bigu, bigs, kerrorAddressString, kPrefix, kl1Src, kConfig, kFrame, kboundsError, kEvent, kAttrs, kWire, kSession, kEntry, kTold, kRule, kUpdate, kRoute, kAttrsResult, kWireResult, kToldResult, kRouteResult, kUpdatesResult, kLink, kNode, kSettings, kMail, kRouter, kMessage, kRouterResult, kNodeResult, kPair, kPairResult] at *); omega) (by (try simp only [bigp, bigi, bigb, bigu, bigs, kerrorAddressString, kPrefix, kl1Src, kConfig, kFrame, kboundsError, kEvent, kAttrs, kWire, kSession, kEntry, kTold, kRule, kUpdate, kRoute, kAttrsResult, kWireResult, kToldResult, kRouteResult, kUpdatesResult, kLink, kNode, kSettings, kMail, kRouter, kMessage, kRouterResult, kNodeResult, kPair, kPairResult] at *); omega)]
  (try simp only [Option.bind_some, Bool.not_true, cond_false, bne_self_eq_false, BEq.rfl])
  rw [laws_eqRuleS.refl k _ rfl (by (try simp only [bigp, bigi, bigb, bigu, bigs, kerrorAddressString, kPrefix, kl1Src, kConfig, kFrame, kboundsError, kEvent, kAttrs, kWire, kSession, kEntry, kTold, kRule, kUpdate, kRoute, kAttrsResult, kWireResult, kToldResult, kRouteResult, kUpdatesResult, kLink, kNode, kSettings, kMail, kRouter, kMessage, kRouterResult, kNodeResult, kPair, kPairResult] at *); omega) (by (try simp only [bigp, bigi, bigb, bigu, bigs, kerrorAddressString, kPrefix, kl1Src, kConfig, kFrame, kboundsError, kEvent, kAttrs, kWire, kSession, kEntry, kTold, kRule, kUpdate, kRoute, kAttrsResult, kWireResult, kToldResult, kRouteResult, kUpdatesResult, kLink, kNode, kSettings, kMail, kRouter, kMessage, kRouterResult, kNodeResult, kPair, kPairResult] at *); omega)]
  (try simp only [Option.bind_some, Bool.not_true, cond_false, bne_self_eq_false, BEq.rfl])
  rw [laws_eqRuleS.refl k _ rfl (by (try simp only [bigp, bigi, bigb, bigu, bigs, kerrorAddressString, kPrefix, kl1Src, kConfig, kFrame, kboundsError, kEvent, kAttrs, kWire, kSession, kEntry, kTold, kRule, kUpdate, kRoute, kAttrsResult, kWireResult, kToldResult, kRouteResult, kUpdatesResult, kLink, kNode, kSettings, kMail, kRouter, kMessage, kRouterResult, kNodeResult, kPair, kPairResult] at *); omega) (by (try simp only [bigp, bigi, bigb, bigu, bigs, kerrorAddressString, kPrefix, kl1Src, kConfig, kFrame, kboundsError, kEvent, kAttrs, kWire, kSession, kEntry, kTold, kRule, kUpdate, kRoute, kAttrsResult, kWireResult, kToldResult, kRouteResult, kUpdatesResult, kLink, kNode, kSettings, kMail, kRouter, kMessage, kRouterResult, kNodeResult, kPair, kPairResult] at *); omega)]
  (try simp only [Option.bind_some, Bool.not_true, cond_false, bne_self_eq_false, BEq.rfl])
theorem laws_eqWire.refl (k : Nat) (x : (Int × (List Int × (Int × (List Int × Unit)))) × (Int × (List Int × (Int × (List Int × Unit)))) × Unit) (he : x.2.1 = x.1) (hb : K.big kWire x.1 ≤ 4294967296) (hk : K.big kWire x.1 < k) : laws_eqWire.F k x = some ((true, ()), ()) := by
  obtain ⟨x, y, _⟩ := x
  simp only at he hb hk
  subst he
  unfold laws_eqWire.F
  (try simp only [bne_self_eq_false, cond_false])
  rw [laws_eqByteS.refl k _ rfl (by (try simp only [bigp, bigi, bigb, bigu, bigs, kerrorAddressString, kPrefix, kl1Src, kConfig, kFrame, kboundsError, kEvent, kAttrs, kWire, kSession, kEntry, kTold, kRule, kUpdate, kRoute, kAttrsResult, kWireResult, kToldResult, kRouteResult, kUpdatesResult, kLink, kNode, kSettings, kMail, kRouter, kMessage, kRouterResult, kNodeResult, kPair, kPairResult] at *); omega) (by (try simp only [bigp, bigi, bigb, bigu, bigs, kerrorAddressString, kPrefix, kl1Src, kConfig, kFrame, kboundsError, kEvent, kAttrs, kWire, kSession, kEntry, kTold, kRule, kUpdate, kRoute, kAttrsResult, kWireResult, kToldResult, kRouteResult, kUpdatesResult, kLink, kNode, kSettings, kMail, kRouter, kMessage, kRouterResult, kNodeResult, kPair, kPairResult] at *); omega)]
  (try simp only [Option.bind_some, Bool.not_true, cond_false, bne_self_eq_false, BEq.rfl])
  rw [laws_eqByteS.refl k _ rfl (by (try simp only [bigp, bigi, bigb, bigu, bigs, kerrorAddressString, kPrefix, kl1Src, kConfig, kFrame, kboundsError, kEvent, kAttrs, kWire, kSession, kEntry, kTold, kRule, kUpdate, kRoute, kAttrsResult, kWireResult, kToldResult, kRouteResult, kUpdatesResult, kLink, kNode, kSettings, kMail, kRouter, kMessage, kRouterResult, kNodeResult, kPair, kPairResult] at *); omega) (by (try simp only [bigp, bigi, bigb, bigu, bigs, kerrorAddressString, kPrefix, kl1Src, kConfig, kFrame, kboundsError, kEvent, kAttrs, kWire, kSession, kEntry, kTold, kRule, kUpdate, kRoute, kAttrsResult, kWireResult, kToldResult, kRouteResult, kUpdatesResult, kLink, kNode, kSettings, kMail, kRouter, kMessage, kRouterResult, kNodeResult, kPair, kPairResult] at *); omega)]
  (try simp only [Option.bind_some, Bool.not_true, cond_false, bne_self_eq_false, BEq.rfl])
theorem laws_eqWireS.refl (k : Nat) (x : List (Int × (List Int × (Int × (List Int × Unit)))) × List (Int × (List Int × (Int × (List Int × Unit)))) × Unit) (he : x.2.1 = x.1) (hb : K.big (.sl kWire) x.1 ≤ 4294967296) (hk : K.big (.sl kWire) x.1 < k) : laws_eqWireS.F k x = some ((true, ()), ()) := by
  obtain ⟨x, y, _⟩ := x
  simp only at he hb hk
  subst he
  have hl : y.length ≤ K.big (.sl kWire) y := big_len (e := kWire) y
  unfold laws_eqWireS.F
  simp only [bne_self_eq_false, cond_false]
  refine loop_inv (len := y.length) (fun n i (s : Unit) => laws_eqWireS.l4 k _ _ n y y i) (fun i s => True) _ ?_ ?_ k 0 () (Nat.zero_le _) trivial (by omega)
  · rintro n s -
    simp only [laws_eqWireS.l4, lt_dec_f, cond_false]
  · rintro n i s hi -
    have hm : K.big kWire y[i] + 1 ≤ K.big (.sl kWire) y := big_mem (e := kWire) (l := y) (List.getElem_mem hi)
    refine ⟨(), ?_, trivial⟩
    simp only [laws_eqWireS.l4, lt_dec hi, inBn hi, cond_true, share_eq, getD_get _ hi, bne_self_eq_false, cond_false]
    rw [laws_eqWire.refl k _ rfl (by simp only; omega) (by simp only; omega)]
    simp only [Option.bind_some, Bool.not_true, cond_false]
    rw [next_i (by omega)]
theorem laws_eqMail.refl (k : Nat) (x : (Int × (Int × (Int × (Int × (Int × (Bool × ((Int × ((Int × (Int × (List Int × Unit))) × Unit)) × Unit))))))) × (Int × (Int × (Int × (Int × (Int × (Bool × ((Int × ((Int × (Int × (List Int × Unit))) × Unit)) × Unit))))))) × Unit) (he : x.2.1 = x.1) (hb : K.big kMail x.1 ≤ 4294967296) (hk : K.big kMail x.1 < k) : laws_eqMail.F k x = some ((true, ()), ()) := by
  obtain ⟨x, y, _⟩ := x
  simp only at he hb hk
  subst he
  unfold laws_eqMail.F
  (try simp only [bne_self_eq_false, cond_false])
  rw [laws_eqEntry.refl k _ rfl (by (try simp only [bigp, bigi, bigb, bigu, bigs, kerrorAddressString, kPrefix, kl1Src, kConfig, kFrame, kboundsError, kEvent, kAttrs, kWire, kSession, kEntry, kTold, kRule, kUpdate, kRoute, kAttrsResult, kWireResult, kToldResult, kRouteResult, kUpdatesResult, kLink, kNode, kSettings, kMail, kRouter, kMessage, kRouterResult, kNodeResult, kPair, kPairResult] at *); omega) (by (try simp only [bigp, bigi, bigb, bigu, bigs, kerrorAddressString, kPrefix, kl1Src, kConfig, kFrame, kboundsError, kEvent, kAttrs, kWire, kSession, kEntry, kTold, kRule, kUpdate, kRoute, kAttrsResult, kWireResult, kToldResult, kRouteResult, kUpdatesResult, kLink, kNode, kSettings, kMail, kRouter, kMessage, kRouterResult, kNodeResult, kPair, kPairResult] at *); omega)]
  (try simp only [Option.bind_some, Bool.not_true, cond_false, bne_self_eq_false, BEq.rfl])
theorem laws_eqMailS.refl (k : Nat) (x : List (Int × (Int × (Int × (Int × (Int × (Bool × ((Int × ((Int × (Int × (List Int × Unit))) × Unit)) × Unit))))))) × List (Int × (Int × (Int × (Int × (Int × (Bool × ((Int × ((Int × (Int × (List Int × Unit))) × Unit)) × Unit))))))) × Unit) (he : x.2.1 = x.1) (hb : K.big (.sl kMail) x.1 ≤ 4294967296) (hk : K.big (.sl kMail) x.1 < k) : laws_eqMailS.F k x = some ((true, ()), ()) := by
  obtain ⟨x, y, _⟩ := x
  simp only at he hb hk
  subst he
  have hl : y.length ≤ K.big (.sl kMail) y := big_len (e := kMail) y
  unfold laws_eqMailS.F
  simp only [bne_self_eq_false, cond_false]
  refine loop_inv (len := y.length) (fun n i (s : Unit) => laws_eqMailS.l4 k _ _ n y y i) (fun i s => True) _ ?_ ?_ k 0 () (Nat.zero_le _) trivial (by omega)
  · rintro n s -
    simp only [laws_eqMailS.l4, lt_dec_f, cond_false]
  · rintro n i s hi -
    have hm : K.big kMail y[i] + 1 ≤ K.big (.sl kMail) y := big_mem (e := kMail) (l := y) (List.getElem_mem hi)
    refine ⟨(), ?_, trivial⟩
    simp only [laws_eqMailS.l4, lt_dec hi, inBn hi, cond_true, share_eq, getD_get _ hi, bne_self_eq_false, cond_false]
    rw [laws_eqMail.refl k _ rfl (by simp only; omega) (by simp only; omega)]
    simp only [Option.bind_some, Bool.not_true, cond_false]
    rw [next_i (by omega)]
theorem laws_eqPair.refl (k : Nat) (x : (((Int × (Int × (Int × Unit))) × (Int × (List ((Int × (Int × Unit)) × (Int × (Int × (Int × (Bool × (Int × (Int × Unit))))))) × (List ((Int × (Int × Unit)) × (Int × (Int × (Int × (Bool × (Int × (Int × Unit))))))) × Unit)))) × (List (Int × (Bool × (Int × (Int × (List (Int × ((Int × (Int × (List Int × Unit))) × Unit)) × (Int × (Int × (Int × (Int × Unit))))))))) × (List (Int × (List Int × (Int × (List Int × Unit)))) × (List (Int × (Int × (Int × (Int × (Int × (Bool × ((Int × ((Int × (Int × (List Int × Unit))) × Unit)) × Unit))))))) × (List (Int × ((Int × (Int × (List Int × Unit))) × Unit)) × Unit))))) × (((Int × (Int × (Int × Unit))) × (Int × (List ((Int × (Int × Unit)) × (Int × (Int × (Int × (Bool × (Int × (Int × Unit))))))) × (List ((Int × (Int × Unit)) × (Int × (Int × (Int × (Bool × (Int × (Int × Unit))))))) × Unit)))) × (List (Int × (Bool × (Int × (Int × (List (Int × ((Int × (Int × (List Int × Unit))) × Unit)) × (Int × (Int × (Int × (Int × Unit))))))))) × (List (Int × (List Int × (Int × (List Int × Unit)))) × (List (Int × (Int × (Int × (Int × (Int × (Bool × ((Int × ((Int × (Int × (List Int × Unit))) × Unit)) × Unit))))))) × (List (Int × ((Int × (Int × (List Int × Unit))) × Unit)) × Unit))))) × Unit) (he : x.2.1 = x.1) (hb : K.big kPair x.1 ≤ 4294967296) (hk : K.big kPair x.1 < k) : laws_eqPair.F k x = some ((true, ()), ()) := by
  obtain ⟨x, y, _⟩ := x
  simp only at he hb hk
  subst he
  unfold laws_eqPair.F
  (try simp only [bne_self_eq_false, cond_false])
  rw [laws_eqSettings.refl k _ rfl (by (try simp only [bigp, bigi, bigb, bigu, bigs, kerrorAddressString, kPrefix, kl1Src, kConfig, kFrame, kboundsError, kEvent, kAttrs, kWire, kSession, kEntry, kTold, kRule, kUpdate, kRoute, kAttrsResult, kWireResult, kToldResult, kRouteResult, kUpdatesResult, kLink, kNode, kSettings, kMail, kRouter, kMessage, kRouterResult, kNodeResult, kPair, kPairResult] at *); omega) (by (try simp only [bigp, bigi, bigb, bigu, bigs, kerrorAddressString, kPrefix, kl1Src, kConfig, kFrame, kboundsError, kEvent, kAttrs, kWire, kSession, kEntry, kTold, kRule, kUpdate, kRoute, kAttrsResult, kWireResult, kToldResult, kRouteResult, kUpdatesResult, kLink, kNode, kSettings, kMail, kRouter, kMessage, kRouterResult, kNodeResult, kPair, kPairResult] at *); omega)]
  (try simp only [Option.bind_some, Bool.not_true, cond_false, bne_self_eq_false, BEq.rfl])
  rw [laws_eqNodeS.refl k _ rfl (by (try simp only [bigp, bigi, bigb, bigu, bigs, kerrorAddressString, kPrefix, kl1Src, kConfig, kFrame, kboundsError, kEvent, kAttrs, kWire, kSession, kEntry, kTold, kRule, kUpdate, kRoute, kAttrsResult, kWireResult, kToldResult, kRouteResult, kUpdatesResult, kLink, kNode, kSettings, kMail, kRouter, kMessage, kRouterResult, kNodeResult, kPair, kPairResult] at *); omega) (by (try simp only [bigp, bigi, bigb, bigu, bigs, kerrorAddressString, kPrefix, kl1Src, kConfig, kFrame, kboundsError, kEvent, kAttrs, kWire, kSession, kEntry, kTold, kRule, kUpdate, kRoute, kAttrsResult, kWireResult, kToldResult, kRouteResult, kUpdatesResult, kLink, kNode, kSettings, kMail, kRouter, kMessage, kRouterResult, kNodeResult, kPair, kPairResult] at *); omega)]
  (try simp only [Option.bind_some, Bool.not_true, cond_false, bne_self_eq_false, BEq.rfl])
  rw [laws_eqWireS.refl k _ rfl (by (try simp only [bigp, bigi, bigb, bigu, bigs, kerrorAddressString, kPrefix, kl1Src, kConfig, kFrame, kboundsError, kEvent, kAttrs, kWire, kSession, kEntry, kTold, kRule, kUpdate, kRoute, kAttrsResult, kWireResult, kToldResult, kRouteResult, kUpdatesResult, kLink, kNode, kSettings, kMail, kRouter, kMessage, kRouterResult, kNodeResult, kPair, kPairResult] at *); omega) (by (try simp only [bigp, bigi, bigb, bigu, bigs, kerrorAddressString, kPrefix, kl1Src, kConfig, kFrame, kboundsError, kEvent, kAttrs, kWire, kSession, kEntry, kTold, kRule, kUpdate, kRoute, kAttrsResult, kWireResult, kToldResult, kRouteResult, kUpdatesResult, kLink, kNode, kSettings, kMail, kRouter, kMessage, kRouterResult, kNodeResult, kPair, kPairResult] at *); omega)]
  (try simp only [Option.bind_some, Bool.not_true, cond_false, bne_self_eq_false, BEq.rfl])
  rw [laws_eqMailS.refl k _ rfl (by (try simp only [bigp, bigi, bigb, bigu, bigs, kerrorAddressString, kPrefix, kl1Src, kConfig, kFrame, kboundsError, kEvent, kAttrs, kWire, kSession, kEntry, kTold, kRule, kUpdate, kRoute, kAttrsResult, kWireResult, kToldResult, kRouteResult, kUpdatesResult, kLink, kNode, kSettings, kMail, kRouter, kMessage, kRouterResult, kNodeResult, kPair, kPairResult] at *); omega) (by (try simp only [bigp, bigi, bigb, bigu, bigs, kerrorAddressString, kPrefix, kl1Src, kConfig, kFrame, kboundsError, kEvent, kAttrs, kWire, kSession, kEntry, kTold, kRule, kUpdate, kRoute, kAttrsResult, kWireResult, kToldResult, kRouteResult, kUpdatesResult, kLink, kNode, kSettings, kMail, kRouter, kMessage, kRouterResult, kNodeResult, kPair, kPairResult] at *); omega)]
  (try simp only [Option.bind_some, Bool.not_true, cond_false, bne_self_eq_false, BEq.rfl])
  rw [laws_eqEntryS.refl k _ rfl (by (try simp only [bigp, bigi, bigb, bigu, bigs, kerrorAddressString, kPrefix, kl1Src, kConfig, kFrame, kboundsError, kEvent, kAttrs, kWire, kSession, kEntry, kTold, kRule, kUpdate, kRoute, kAttrsResult, kWireResult, kToldResult, kRouteResult, kUpdatesResult, kLink, kNode, kSettings, kMail, kRouter, kMessage, kRouterResult, kNodeResult, kPair, kPairResult] at *); omega) (by (try simp only [bigp, bigi, bigb, bigu, bigs, kerrorAddressString, kPrefix, kl1Src, kConfig, kFrame, kboundsError, kEvent, kAttrs, kWire, kSession, kEntry, kTold, kRule, kUpdate, kRoute, kAttrsResult, kWireResult, kToldResult, kRouteResult, kUpdatesResult, kLink, kNode, kSettings, kMail, kRouter, kMessage, kRouterResult, kNodeResult, kPair, kPairResult] at *); omega)]
  (try simp only [Option.bind_some, Bool.not_true, cond_false, bne_self_eq_false, BEq.rfl])
end Go.Proofs.Ythnidahfdnnboaa
/- What the small functions compute, in plain words: numbers, prefixes. -/
set_option linter.unusedVariables false
set_option linter.unusedSimpArgs false
namespace Go.Proofs.Ythnidahfdnnboaa
open Go Go.Dn
theorem cond_some {α : Type} (b : Bool) (x y : α) : (bif b then some x else some y) = some (bif b then x else y) := by cases b <;> rfl
theorem cond_pair {α β : Type} (b : Bool) (x y : α) (u v : β) : (bif b then (x, u) else (y, v)) = (bif b then x else y, bif b then u else v) := by cases b <;> rfl
theorem cond_same {α : Type} (b : Bool) (x : α) : (bif b then x else x) = x := by cases b <;> rfl

def inR (x lo hi : Int) : Bool := decide (lo ≤ x) && decide (x ≤ hi)
theorem inR_iff {x lo hi : Int} : inR x lo hi = true ↔ lo ≤ x ∧ x ≤ hi := by simp [inR]
theorem in_form (x lo hi : Int) : (bif decide (x ≥ lo) then some ((decide (x ≤ hi), ()), ()) else some ((false, ()), ())) = some ((inR x lo hi, ()), ()) := by
  unfold inR
  by_cases h : lo ≤ x <;> simp [h]
theorem impl_in.eq (k : Nat) (x : Int × Int × Int × Unit) : impl_in.F k x = some ((inR x.1 x.2.1 x.2.2.1, ()), ()) := in_form _ _ _
theorem spec_l1In.eq (k : Nat) (x : Int × Int × Int × Unit) : spec_l1In.F k x = some ((inR x.1 x.2.1 x.2.2.1, ()), ()) := in_form _ _ _
theorem impl_isAddr.eq (k : Nat) (x : Int × Unit) : impl_isAddr.F k x = some ((inR x.1 0 65535, ()), ()) := by
  unfold impl_isAddr.F; rw [impl_in.eq]; rfl
theorem spec_l2Addr.eq (k : Nat) (x : Int × Unit) : spec_l2Addr.F k x = some ((inR x.1 0 65535, ()), ()) := by
  unfold spec_l2Addr.F; rw [spec_l1In.eq]; rfl

/-! ### Prefixes -/
def rest (n : Int) : Int := IntKind.wrap .i64 (shlV .i64 1 (16 - n) - 1)
def prefixFault (x : Int × Int × Unit) : Int :=
  bif !inR x.1 0 65535 then 3 else bif !inR x.2.1 0 16 then 3 else bif andV .i64 x.1 (rest x.2.1) != 0 then 1 else 0
theorem impl_PrefixFault.eq (k : Nat) (x : (Int × Int × Unit) × Unit) : impl_PrefixFault.F k x = some ((prefixFault x.1, ()), ()) := by
  unfold impl_PrefixFault.F prefixFault
  rw [impl_isAddr.eq, impl_in.eq]
  simp only [Option.bind_some]
  cases h1 : inR x.1.1 0 65535
  · rfl
  · cases h2 : inR x.1.2.1 0 16
    · rfl
    · have h3 := inR_iff.1 h2
      simp only [Bool.not_true, cond_false]
      rw [w64 (n := 16 - x.1.2.1) (by omega) (by omega), decide_eq_false (by omega), cond_false, cond_some, cond_pair, cond_pair]
      rfl
theorem spec_l2Rest.eq (k : Nat) (x : Int × Unit) (h : 0 ≤ x.1 ∧ x.1 ≤ 16) : spec_l2Rest.F k x = some ((rest x.1, ()), ()) := by
  unfold spec_l2Rest.F rest
  rw [w64 (n := 16 - x.1) (by omega) (by omega), wu64 (by omega) (by omega), decide_eq_false (by omega), cond_false]
theorem spec_PrefixFault.eq (k : Nat) (x : (Int × Int × Unit) × Unit) : spec_PrefixFault.F k x = some ((prefixFault x.1, ()), ()) := by
  unfold spec_PrefixFault.F prefixFault
  rw [spec_l2Addr.eq, spec_l1In.eq]
  simp only [Option.bind_some]
  cases h1 : inR x.1.1 0 65535
  · rfl
  · cases h2 : inR x.1.2.1 0 16
    · rfl
    · simp only [Bool.not_true, cond_false]
      rw [spec_l2Rest.eq k _ (inR_iff.1 h2)]
      simp only [Option.bind_some]
      rw [cond_some, cond_pair, cond_pair, cond_same]
theorem drop_step {α : Type} {l : List α} {i : Nat} (h : i < l.length) : l.drop i = l[i] :: l.drop (i + 1) := List.drop_eq_getElem_cons h
/-- The first fault in a list. -/
def firstF {α : Type} (f : α → Int) : List α → Int
  | [] => 0
  | x :: r => bif f x != 0 then f x else firstF f r
theorem bne_zero {n : Int} (h : n ≠ 0) : (n != 0) = true := by simp [h]
end Go.Proofs.Ythnidahfdnnboaa
/- Rules, configurations, settings: what is not right of them. -/
set_option linter.unusedVariables false
set_option linter.unusedSimpArgs false
namespace Go.Proofs.Ythnidahfdnnboaa
open Go Go.Dn
abbrev TRule := (Int × Int × Unit) × Int × Int × Int × Bool × Int × Int × Unit
abbrev TConfig := Int × Int × Int × Unit
abbrev TSettings := TConfig × Int × List TRule × List TRule × Unit
theorem impl_isTwo.eq (k : Nat) (x : Int × Unit) : impl_isTwo.F k x = some ((inR x.1 0 65535, ()), ()) := by
  unfold impl_isTwo.F; rw [impl_in.eq]; rfl
theorem spec_l3Word.eq (k : Nat) (x : Int × Unit) : spec_l3Word.F k x = some ((inR x.1 0 65535, ()), ()) := by
  unfold spec_l3Word.F; rw [spec_l1In.eq]; rfl
theorem impl_isSystem.eq (k : Nat) (x : Int × Unit) : impl_isSystem.F k x = some ((inR x.1 1 65535, ()), ()) := by
  unfold impl_isSystem.F; rw [impl_in.eq]; rfl
def isHold (x : Int) : Bool := bif x == 0 then true else inR x 3 200
theorem impl_isHold.eq (k : Nat) (x : Int × Unit) : impl_isHold.F k x = some ((isHold x.1, ()), ()) := by
  unfold impl_isHold.F isHold; rw [impl_in.eq]; simp only [Option.bind_some, cond_some, cond_pair, cond_same]
theorem spec_l4Hold.eq (k : Nat) (x : Int × Unit) : spec_l4Hold.F k x = some ((isHold x.1, ()), ()) := by
  unfold spec_l4Hold.F isHold; rw [spec_l1In.eq]; simp only [Option.bind_some, cond_some, cond_pair, cond_same]
def configFault (x : TConfig) : Int := bif !inR x.1 1 65535 then 3 else bif !inR x.2.1 1 65535 then 3 else bif !isHold x.2.2.1 then 3 else 0
theorem impl_ConfigFault.eq (k : Nat) (x : TConfig × Unit) : impl_ConfigFault.F k x = some ((configFault x.1, ()), ()) := by
  unfold impl_ConfigFault.F configFault
  rw [impl_isSystem.eq, impl_isSystem.eq, impl_isHold.eq]
  simp only [Option.bind_some, cond_some, cond_pair, cond_same]
theorem spec_ConfigFault.eq (k : Nat) (x : TConfig × Unit) : spec_ConfigFault.F k x = some ((configFault x.1, ()), ()) := by
  unfold spec_ConfigFault.F configFault
  rw [spec_l1In.eq, spec_l1In.eq, spec_l4Hold.eq]
  simp only [Option.bind_some, cond_some, cond_pair, cond_same]
def ruleFault (x : TRule) : Int :=
  bif prefixFault x.1 != 0 then prefixFault x.1 else bif !inR x.2.1 0 16 then 3 else bif !inR x.2.2.1 0 16 then 3 else bif !inR x.2.2.2.1 0 65535 then 3 else
  bif !inR x.2.2.2.2.2.1 (-1) 65535 then 3 else bif !inR x.2.2.2.2.2.2.1 0 3 then 3 else bif decide (x.2.1 > x.2.2.1) then 1 else
  bif x.2.2.2.2.1 then (bif x.2.2.2.2.2.1 != -1 then 1 else bif x.2.2.2.2.2.2.1 != 0 then 1 else 0) else 0
theorem impl_RuleFault.eq (k : Nat) (x : TRule × Unit) : impl_RuleFault.F k x = some ((ruleFault x.1, ()), ()) := by
  unfold impl_RuleFault.F ruleFault
  rw [impl_PrefixFault.eq, impl_in.eq, impl_in.eq, impl_isTwo.eq, impl_in.eq, impl_in.eq]
  simp only [Option.bind_some, cond_some, cond_pair, cond_same]
theorem spec_RuleFault.eq (k : Nat) (x : TRule × Unit) : spec_RuleFault.F k x = some ((ruleFault x.1, ()), ()) := by
  unfold spec_RuleFault.F ruleFault
  rw [spec_PrefixFault.eq, spec_l1In.eq, spec_l1In.eq, spec_l3Word.eq, spec_l1In.eq, spec_l1In.eq]
  simp only [Option.bind_some, cond_some, cond_pair, cond_same]
def rulesFault (x : List TRule) : Int := bif decide ((x.length : Int) > 8) then 2 else firstF ruleFault x
theorem impl_RulesFault.eq (k : Nat) (x : List TRule × Unit) (hk : 8 < k) : impl_RulesFault.F k x = some ((rulesFault x.1, ()), ()) := by
  obtain ⟨x, _⟩ := x
  unfold impl_RulesFault.F rulesFault
  by_cases hl : (x.length : Int) > 8
  · simp only [decide_eq_true hl, cond_true]
  simp only [decide_eq_false hl, cond_false]
  refine loop_up (len := x.length) (fun n i (_ : Unit) => impl_RulesFault.l4 k _ _ n x x.length i) (fun _ _ => True) (fun i _ => some ((firstF ruleFault (x.drop i), ()), ())) ?_ ?_ k 0 () (Nat.zero_le _) trivial (by omega)
  · rintro n s -
    simp only [impl_RulesFault.l4, lt_dec_f, cond_false, List.drop_length, firstF]
  · rintro n i s hi -
    simp only [impl_RulesFault.l4, lt_dec hi, inBn hi, cond_true, share_eq, getD_get _ hi]
    rw [impl_RuleFault.eq]
    simp only [Option.bind_some, drop_step hi, firstF]
    cases h : ruleFault x[i] != 0
    · exact .inr ⟨(), by rw [cond_false, next_i (by omega)], trivial, by simp only [cond_false]⟩
    · exact .inl (by simp only [cond_true])
theorem spec_RulesFault.eq (k : Nat) (x : List TRule × Unit) (hk : 8 < k) : spec_RulesFault.F k x = some ((rulesFault x.1, ()), ()) := by
  obtain ⟨x, _⟩ := x
  unfold spec_RulesFault.F rulesFault
  by_cases hl : (x.length : Int) > 8
  · simp only [decide_eq_true hl, cond_true]
  simp only [decide_eq_false hl, cond_false]
  refine loop_up (len := x.length) (fun n i (_ : Unit) => spec_RulesFault.l4 k _ _ n x i) (fun _ _ => True) (fun i _ => some ((firstF ruleFault (x.drop i), ()), ())) ?_ ?_ k 0 () (Nat.zero_le _) trivial (by omega)
  · rintro n s -
    simp only [spec_RulesFault.l4, lt_dec_f, cond_false, List.drop_length, firstF]
  · rintro n i s hi -
    simp only [spec_RulesFault.l4, lt_dec hi, inBn hi, cond_true, share_eq, getD_get _ hi]
    rw [spec_RuleFault.eq]
    simp only [Option.bind_some, drop_step hi, firstF]
    cases h : ruleFault x[i] != 0
    · exact .inr ⟨(), by rw [cond_false, next_i (by omega)], trivial, by simp only [cond_false]⟩
    · exact .inl (by simp only [cond_true])
def settingsFault (x : TSettings) : Int :=
  bif configFault x.1 != 0 then configFault x.1 else bif !inR x.2.1 0 65535 then 3 else bif rulesFault x.2.2.1 != 0 then rulesFault x.2.2.1 else rulesFault x.2.2.2.1
theorem impl_SettingsFault.eq (k : Nat) (x : TSettings × Unit) (hk : 8 < k) : impl_SettingsFault.F k x = some ((settingsFault x.1, ()), ()) := by
  unfold impl_SettingsFault.F settingsFault
  rw [impl_ConfigFault.eq, impl_isAddr.eq, impl_RulesFault.eq k _ hk, impl_RulesFault.eq k _ hk]
  simp only [Option.bind_some, cond_some, cond_pair, cond_same]
theorem spec_SettingsFault.eq (k : Nat) (x : TSettings × Unit) (hk : 8 < k) : spec_SettingsFault.F k x = some ((settingsFault x.1, ()), ()) := by
  unfold spec_SettingsFault.F settingsFault
  rw [spec_ConfigFault.eq, spec_l2Addr.eq, spec_RulesFault.eq k _ hk, spec_RulesFault.eq k _ hk]
  simp only [Option.bind_some, cond_some, cond_pair, cond_same]
end Go.Proofs.Ythnidahfdnnboaa
/- Events, entries, nodes, mails, wires: what is not right of them. -/
set_option linter.unusedVariables false
set_option linter.unusedSimpArgs false
namespace Go.Proofs.Ythnidahfdnnboaa
open Go Go.Dn
abbrev TEvent := Int × Int × List Int × Unit
abbrev TEntry := Int × TEvent × Unit
abbrev TNode := Int × Bool × Int × Int × List TEntry × Int × Int × Int × Int × Unit
abbrev TMail := Int × Int × Int × Int × Int × Bool × TEntry × Unit
abbrev TWire := Int × List Int × Int × List Int × Unit
theorem impl_isEpoch.eq (k : Nat) (x : Int × Unit) : impl_isEpoch.F k x = some ((inR x.1 1 1000, ()), ()) := by
  unfold impl_isEpoch.F; rw [impl_in.eq]; rfl
theorem spec_l10Epoch.eq (k : Nat) (x : Int × Unit) : spec_l10Epoch.F k x = some ((inR x.1 1 1000, ()), ()) := by
  unfold spec_l10Epoch.F; rw [spec_l1In.eq]; rfl
theorem impl_isPeer.eq (k : Nat) (x : Int × Unit) : impl_isPeer.F k x = some ((inR x.1 0 2, ()), ()) := by
  unfold impl_isPeer.F; rw [impl_in.eq]; rfl
theorem spec_l7Peer.eq (k : Nat) (x : Int × Unit) : spec_l7Peer.F k x = some ((inR x.1 0 2, ()), ()) := by
  unfold spec_l7Peer.F; rw [spec_l1In.eq]; rfl
theorem impl_isNode.eq (k : Nat) (x : Int × Unit) : impl_isNode.F k x = some ((inR x.1 0 1, ()), ()) := by
  unfold impl_isNode.F; rw [impl_in.eq]; rfl
def eventFault (x : TEvent) : Int :=
  bif !inR x.1 1 4 then 1 else bif !inR x.2.1 0 2 then 3 else bif (x.1 == 3) && (x.2.1 != 0) then 3 else
  bif !(decide ((x.2.2.1.length : Int) > 0) == (x.1 == 2)) then 1 else bif decide ((x.2.2.1.length : Int) > 60) then 2 else 0
theorem impl_EventFault.eq (k : Nat) (x : TEvent × Unit) : impl_EventFault.F k x = some ((eventFault x.1, ()), ()) := by
  unfold impl_EventFault.F eventFault
  rw [impl_in.eq, impl_isPeer.eq]
  simp only [Option.bind_some, cond_some, cond_pair, cond_same]
  generalize (x.1.1 == 3) = a; generalize (x.1.2.1 != 0) = b; generalize (x.1.1 == 2) = c; generalize decide ((x.1.2.2.1.length : Int) > 0) = d
  cases a <;> cases b <;> cases c <;> cases d <;> rfl
theorem spec_EventFault.eq (k : Nat) (x : TEvent × Unit) : spec_EventFault.F k x = some ((eventFault x.1, ()), ()) := by
  unfold spec_EventFault.F eventFault
  rw [spec_l1In.eq, spec_l7Peer.eq]
  simp only [Option.bind_some, cond_some, cond_pair, cond_same]
  generalize (x.1.1 == 3) = a; generalize (x.1.2.1 != 0) = b; generalize (x.1.1 == 2) = c; generalize decide ((x.1.2.2.1.length : Int) > 0) = d
  cases a <;> cases b <;> cases c <;> cases d <;> rfl
def entryFault (x : TEntry) : Int := bif !inR x.1 1 1000 then 3 else eventFault x.2.1
theorem impl_EntryFault.eq (k : Nat) (x : TEntry × Unit) : impl_EntryFault.F k x = some ((entryFault x.1, ()), ()) := by
  unfold impl_EntryFault.F entryFault
  rw [impl_isEpoch.eq, impl_EventFault.eq]
  simp only [Option.bind_some, cond_some, cond_pair, cond_same]
theorem spec_EntryFault.eq (k : Nat) (x : TEntry × Unit) : spec_EntryFault.F k x = some ((entryFault x.1, ()), ()) := by
  unfold spec_EntryFault.F entryFault
  rw [spec_l10Epoch.eq, spec_EventFault.eq]
  simp only [Option.bind_some, cond_some, cond_pair, cond_same]

/-! ### Nodes -/
/-- The epoch ahead of place i. -/
def prevOf (l : List TEntry) : Nat → Option Int
  | 0 => none
  | i + 1 => some (l.getD i (0, (0, 0, [], ()), ())).1
def below (n : Int) : Option Int → Bool
  | none => false
  | some p => decide (n < p)
def logF (e : Int) : Option Int → List TEntry → Int
  | _, [] => 0
  | p, x :: r => bif entryFault x != 0 then entryFault x else bif decide (x.1 > e) then 1 else bif below x.1 p then 1 else logF e (some x.1) r
theorem prev_get {l : List TEntry} {i : Nat} (hi : i < l.length) : prevOf l (i + 1) = some l[i].1 := by
  simp [prevOf, List.getD, hi]
theorem cond_c {α : Type} {n : Int} (h : (n != 0) = true) (a b : α) : (bif n != 0 then a else b) = a := by rw [h]; rfl
theorem spec_l12Log.eq (k : Nat) (x : TNode × Unit) (hk : 200 < k) :
    spec_l12Log.F k x = some ((bif decide ((x.1.2.2.2.2.1.length : Int) > 100) then 2 else logF x.1.2.2.2.1 none x.1.2.2.2.2.1, ()), ()) := by
  obtain ⟨x, _⟩ := x
  unfold spec_l12Log.F
  by_cases hl : (x.2.2.2.2.1.length : Int) > 100
  · simp only [decide_eq_true hl, cond_true]
  simp only [decide_eq_false hl, cond_false]
  refine loop_up (len := x.2.2.2.2.1.length) (fun n i (_ : Unit) => spec_l12Log.l4 k _ _ n x i) (fun _ _ => True) (fun i _ => some ((logF x.2.2.2.1 (prevOf x.2.2.2.2.1 i) (x.2.2.2.2.1.drop i), ()), ())) ?_ ?_ k 0 () (Nat.zero_le _) trivial (by omega)
  · rintro n s -
    simp only [spec_l12Log.l4, lt_dec_f, cond_false, List.drop_length, logF]
  · rintro n i s hi -
    simp only [spec_l12Log.l4, lt_dec hi, inBn hi, cond_true, share_eq, getD_get _ hi]
    rw [spec_EntryFault.eq]
    simp only [Option.bind_some, drop_step hi, logF]
    cases h : entryFault x.2.2.2.2.1[i] != 0
    · simp only [cond_false]
      cases h2 : decide (x.2.2.2.2.1[i].1 > x.2.2.2.1)
      · simp only [cond_false]
        rw [next_i (by omega), prev_get hi]
        cases i with
        | zero => exact .inr ⟨(), rfl, trivial, by simp only [prevOf, below, cond_false]⟩
        | succ j =>
          have hj : j < x.2.2.2.2.1.length := by omega
          rw [show ((j + 1 : Nat) : Int) - 1 = (j : Int) by omega, w64 (by omega) (by omega), decide_eq_true (by omega), cond_true, inBn hj, cond_true, getD_get _ hj, prev_get hj]
          simp only [below]
          cases h3 : decide (x.2.2.2.2.1[j + 1].1 < x.2.2.2.2.1[j].1)
          · exact .inr ⟨(), rfl, trivial, by simp only [cond_false]⟩
          · exact .inl (by simp only [cond_true])
      · exact .inl (by simp only [cond_true])
    · exact .inl (by simp only [cond_true])
/-- What is not right behind the log. -/
def nodeTail (x : TNode) : Int :=
  bif !inR x.2.2.2.2.2.1 0 x.2.2.2.2.1.length then 3 else bif !inR x.2.2.2.2.2.2.1 0 x.2.2.2.2.1.length then 3 else
  bif !inR x.2.2.2.2.2.2.2.1 0 x.2.2.2.2.1.length then 3 else bif !inR x.2.2.2.2.2.2.2.2.1 0 x.2.2.2.2.2.1 then 3 else
  bif (x.2.2.1 == 1) && (!x.2.1 || (x.2.2.2.1 == 0) || (x.2.2.2.2.2.2.1 != 0)) then 1 else bif !(x.2.2.1 == 1) && (x.2.2.2.2.2.2.2.1 != 0) then 1 else
  bif !x.2.1 && ((x.2.2.2.2.2.1 != x.2.2.2.2.1.length) || (x.2.2.2.2.2.2.1 != 0) || (x.2.2.2.2.2.2.2.2.1 != 0)) then 1 else 0
def logFault (x : TNode) : Int := bif decide ((x.2.2.2.2.1.length : Int) > 100) then 2 else logF x.2.2.2.1 none x.2.2.2.2.1
def nodeFault (x : TNode) : Int :=
  bif !inR x.1 0 1 then 3 else bif !inR x.2.2.1 0 1 then 3 else bif !inR x.2.2.2.1 0 1000 then 3 else bif logFault x != 0 then logFault x else nodeTail x
theorem spec_l12Fault.eq (k : Nat) (x : TNode × Unit) (hk : 200 < k) : spec_l12Fault.F k x = some ((nodeFault x.1, ()), ()) := by
  obtain ⟨⟨id, up, role, ep, log, sure, mat, oth, com, _⟩, _⟩ := x
  unfold spec_l12Fault.F nodeFault
  rw [spec_l12Log.eq k _ hk]
  simp only [spec_l1In.eq, Option.bind_some, cond_some, cond_pair, cond_same, logFault, nodeTail]
  generalize (role == 1) = a; generalize (ep == 0) = b; generalize (mat != 0) = c; generalize (oth != 0) = d; generalize (sure != (log.length : Int)) = e; generalize (com != 0) = f
  generalize (bif decide ((log.length : Int) > 100) then (2 : Int) else logF ep none log) = g
  cases a <;> cases up <;> cases b <;> cases c <;> cases d <;> cases e <;> cases f <;> rfl
theorem impl_size_impl_Entry.eq (k : Nat) (x : List TEntry × Unit) : impl_size_impl_Entry.F k x = some (((x.1.length : Int), ()), ()) := rfl
theorem impl_size_byte.eq (k : Nat) (x : List Int × Unit) : impl_size_byte.F k x = some (((x.1.length : Int), ()), ()) := rfl
theorem impl_NodeFault.loop {ρ : Type} (k : Nat) (c0 : Int × Unit → Option ρ) (c1 : TNode → Option ρ) (x : TNode) (hl : x.2.2.2.2.1.length ≤ 100) (hk : 200 < k) :
    impl_NodeFault.l6 k c0 c1 k x.2.2.2.2.1 (x.2.2.2.2.1.length : Int) 0 x.1 x.2.1 x.2.2.1 x.2.2.2.1 x.2.2.2.2.1 x.2.2.2.2.2.1 x.2.2.2.2.2.2.1 x.2.2.2.2.2.2.2.1 x.2.2.2.2.2.2.2.2.1
      = bif logF x.2.2.2.1 none x.2.2.2.2.1 != 0 then c0 (logF x.2.2.2.1 none x.2.2.2.2.1, ()) else c1 x := by
  obtain ⟨id, up, role, ep, log, sure, mat, oth, com, _⟩ := x
  simp only at hl ⊢
  refine loop_up (len := log.length) (fun n i (_ : Unit) => impl_NodeFault.l6 k c0 c1 n log log.length i id up role ep log sure mat oth com) (fun _ _ => True) (fun i _ => bif logF ep (prevOf log i) (log.drop i) != 0 then c0 (logF ep (prevOf log i) (log.drop i), ()) else c1 (id, up, role, ep, log, sure, mat, oth, com, ())) ?_ ?_ k 0 () (Nat.zero_le _) trivial (by omega)
  · rintro n s -
    simp only [impl_NodeFault.l6, lt_dec_f, cond_false, List.drop_length, logF, bne_self_eq_false]
  · rintro n i s hi -
    simp only [impl_NodeFault.l6, lt_dec hi, inBn hi, cond_true, share_eq, getD_get _ hi]
    rw [impl_EntryFault.eq]
    simp only [Option.bind_some, drop_step hi, logF]
    cases h : entryFault log[i] != 0
    · simp only [cond_false]
      cases h2 : decide (log[i].1 > ep)
      · simp only [cond_false]
        rw [next_i (by omega), prev_get hi]
        cases i with
        | zero => exact .inr ⟨(), rfl, trivial, by simp only [prevOf, below, cond_false]⟩
        | succ j =>
          have hj : j < log.length := by omega
          rw [show ((j + 1 : Nat) : Int) - 1 = (j : Int) by omega, w64 (by omega) (by omega), decide_eq_true (by omega), cond_true, inBn hj, cond_true, getD_get _ hj, prev_get hj]
          simp only [below]
          cases h3 : decide (log[j + 1].1 < log[j].1)
          · exact .inr ⟨(), rfl, trivial, by simp only [cond_false]⟩
          · exact .inl (by simp only [cond_true]; rfl)
      · exact .inl (by simp only [cond_true]; rfl)
    · exact .inl (by simp only [cond_true, h])
theorem impl_NodeFault.eq (k : Nat) (x : TNode × Unit) (hk : 200 < k) : impl_NodeFault.F k x = some ((nodeFault x.1, ()), ()) := by
  obtain ⟨x, _⟩ := x
  unfold impl_NodeFault.F nodeFault
  by_cases hl : (x.2.2.2.2.1.length : Int) > 100
  · simp only [impl_isNode.eq, impl_in.eq, Option.bind_some, decide_eq_true hl, cond_true, logFault, cond_some, cond_pair, cond_same]
    rfl
  rw [impl_NodeFault.loop k _ _ x (by omega) hk]
  simp only [impl_isNode.eq, impl_in.eq, impl_size_impl_Entry.eq, Option.bind_some, decide_eq_false hl, cond_false, logFault, cond_some, cond_pair, cond_same, nodeTail]
  obtain ⟨id, up, role, ep, log, sure, mat, oth, com, _⟩ := x
  simp only
  generalize (role == 1) = a; generalize (ep == 0) = b; generalize (mat != 0) = c; generalize (oth != 0) = d; generalize (sure != (log.length : Int)) = e; generalize (com != 0) = f
  cases a <;> cases up <;> cases b <;> cases c <;> cases d <;> cases e <;> cases f <;> rfl

/-! ### Mails -/
def entryZero (x : TEntry) : Bool := (x.1 == 0) && (x.2.1.1 == 0) && (x.2.1.2.1 == 0) && ((x.2.1.2.2.1.length : Int) == 0)
theorem impl_Entry_isZero.eq (k : Nat) (x : TEntry × Unit) : impl_Entry_isZero.F k x = some ((entryZero x.1, ()), ()) := by
  unfold impl_Entry_isZero.F entryZero
  simp only [cond_some, cond_pair, cond_same]
  cases x.1.1 == 0 <;> cases x.1.2.1.1 == 0 <;> cases x.1.2.1.2.1 == 0 <;> simp
theorem spec_l12Zero.eq (k : Nat) (x : TEntry × Unit) : spec_l12Zero.F k x = some ((entryZero x.1, ()), ()) := by
  unfold spec_l12Zero.F entryZero
  simp only [cond_some, cond_pair, cond_same]
  cases x.1.1 == 0 <;> cases x.1.2.1.1 == 0 <;> cases x.1.2.1.2.1 == 0 <;> simp
def mailForm (x : TMail) : Bool :=
  bif x.1 == 2 then !x.2.2.2.2.2.1 && (x.2.2.2.2.1 == 0) && entryZero x.2.2.2.2.2.2.1
  else ((x.2.2.2.1 == 0) == (x.2.2.2.2.1 == 0)) && (x.2.2.2.2.2.1 || entryZero x.2.2.2.2.2.2.1) && decide (x.2.2.2.2.1 ≤ x.2.2.1)
theorem spec_l12Form.eq (k : Nat) (x : TMail × Unit) : spec_l12Form.F k x = some ((mailForm x.1, ()), ()) := by
  obtain ⟨⟨kind, to, ep, att, prev, has, e, _⟩, _⟩ := x
  unfold spec_l12Form.F mailForm
  simp only [spec_l12Zero.eq, Option.bind_some, cond_some, cond_pair, cond_same]
  generalize (kind == 2) = a; generalize ((att == 0) == (prev == 0)) = b; generalize (prev == 0) = c; generalize entryZero e = d
  cases a <;> cases b <;> cases c <;> cases d <;> cases has <;> simp
def mailF (id : Int) (x : TMail) : Int :=
  bif !inR x.1 1 2 then 1 else bif x.2.1 != id then 1 else bif !inR x.2.2.1 1 1000 then 3 else bif !inR x.2.2.2.1 0 100 then 3 else bif !inR x.2.2.2.2.1 0 1000 then 3 else
  bif !mailForm x then 1 else bif x.2.2.2.2.2.1 then (bif entryFault x.2.2.2.2.2.2.1 != 0 then entryFault x.2.2.2.2.2.2.1 else bif decide (x.2.2.2.2.2.2.1.1 > x.2.2.1) then 1 else bif decide (x.2.2.2.2.2.2.1.1 < x.2.2.2.2.1) then 1 else 0) else 0
theorem spec_l12Mail.eq (k : Nat) (x : TNode × TMail × Unit) : spec_l12Mail.F k x = some ((mailF x.1.1 x.2.1, ()), ()) := by
  unfold spec_l12Mail.F mailF
  simp only [spec_l1In.eq, spec_l10Epoch.eq, spec_l12Form.eq, spec_EntryFault.eq, Option.bind_some, cond_some, cond_pair, cond_same]
theorem impl_MailFault.eq (k : Nat) (x : TNode × TMail × Unit) (hk : 200 < k) : impl_MailFault.F k x = some ((bif nodeFault x.1 != 0 then nodeFault x.1 else mailF x.1.1 x.2.1, ()), ()) := by
  obtain ⟨n, ⟨kind, to, ep, att, prev, has, e, _⟩, _⟩ := x
  unfold impl_MailFault.F mailF mailForm
  rw [impl_NodeFault.eq k _ hk]
  simp only [impl_in.eq, impl_isEpoch.eq, impl_Entry_isZero.eq, impl_EntryFault.eq, Option.bind_some, cond_some, cond_pair, cond_same]
  by_cases hn : (nodeFault n != 0) = true
  · simp only [hn, cond_true]
  rw [Bool.eq_false_iff.2 hn]
  simp only [cond_false]
  by_cases k1 : kind = 1
  · subst k1
    simp only [show ((1 : Int) != 1) = false from rfl, show ((1 : Int) == 2) = false from rfl, show ((1 : Int) == 1) = true from rfl, show inR 1 1 2 = true from rfl, cond_false, cond_true, Bool.not_true]
    rw [show decide (prev > ep) = !decide (prev ≤ ep) from by by_cases h : prev ≤ ep <;> simp [h] <;> omega]
    generalize ((att == 0) == (prev == 0)) = b; generalize entryZero e = d; generalize decide (prev ≤ ep) = f; generalize (to != n.1) = g; generalize inR ep 1 1000 = h; generalize inR att 0 100 = i; generalize inR prev 0 1000 = j
    cases b <;> cases d <;> cases f <;> cases has <;> cases g <;> cases h <;> cases i <;> cases j <;> rfl
  · by_cases k2 : kind = 2
    · subst k2
      simp only [show ((2 : Int) != 1) = true from rfl, show ((2 : Int) != 2) = false from rfl, show ((2 : Int) == 2) = true from rfl, show ((2 : Int) == 1) = false from rfl, show inR 2 1 2 = true from rfl, cond_false, cond_true, Bool.not_true]
      cases h : inR ep 1 1000
      · cases (to != n.1) <;> rfl
      by_cases hp : prev = 0
      · subst hp
        rw [decide_eq_false (show ¬ (0 : Int) > ep by have := inR_iff.1 h; omega)]
        simp only [show ((0 : Int) != 0) = false from rfl, show ((0 : Int) == 0) = true from rfl]
        generalize entryZero e = d; generalize (to != n.1) = g; generalize inR att 0 100 = i; generalize inR 0 0 1000 = j
        cases d <;> cases has <;> cases g <;> cases i <;> cases j <;> rfl
      · have e1 : (prev != 0) = true := by simp [hp]
        have e2 : (prev == 0) = false := by simp [hp]
        simp only [e1, e2]
        generalize entryZero e = d; generalize (to != n.1) = g; generalize inR att 0 100 = i; generalize inR prev 0 1000 = j
        cases d <;> cases has <;> cases g <;> cases i <;> cases j <;> rfl
    · have e1 : (kind != 1) = true := by simp [k1]
      have e2 : (kind != 2) = true := by simp [k2]
      have e3 : inR kind 1 2 = false := by simp [inR]; omega
      simp only [e1, e2, e3, cond_true, Bool.not_false]

/-! ### Wires -/
def wireFault (x : TWire) : Int :=
  bif !inR x.1 0 1000 then 3 else bif decide ((x.2.1.length : Int) > 2000) then 2 else bif decide ((x.2.2.2.1.length : Int) > 2000) then 2 else bif !inR x.2.2.1 0 x.2.1.length then 3 else 0
theorem impl_WireFault.eq (k : Nat) (x : TWire × Unit) : impl_WireFault.F k x = some ((wireFault x.1, ()), ()) := by
  unfold impl_WireFault.F wireFault
  simp only [impl_in.eq, impl_size_byte.eq, Option.bind_some, cond_some, cond_pair, cond_same]
theorem spec_WireFault.eq (k : Nat) (x : TWire × Unit) : spec_WireFault.F k x = some ((wireFault x.1, ()), ()) := by
  unfold spec_WireFault.F wireFault
  simp only [spec_l1In.eq, Option.bind_some, cond_some, cond_pair, cond_same]
end Go.Proofs.Ythnidahfdnnboaa
/- Pairs: what is not right of them, in plain words. -/
set_option linter.unusedVariables false
set_option linter.unusedSimpArgs false
namespace Go.Proofs.Ythnidahfdnnboaa
open Go Go.Dn
abbrev TPair := TSettings × List TNode × List TWire × List TMail × List TEntry × Unit
def nodesF : Int → List TNode → Int
  | _, [] => 0
  | i, n :: r => bif nodeFault n != 0 then nodeFault n else bif n.1 != i then 1 else nodesF (i + 1) r
theorem nodesF_zero : ∀ (l : List TNode) (i : Int), nodesF i l = 0 → ∀ n ∈ l, nodeFault n = 0
  | [], _, _, n, h => by cases h
  | x :: l, i, h, n, hn => by
    simp only [nodesF] at h
    by_cases e : nodeFault x = 0
    · rw [e] at h
      simp only [bne_self_eq_false, cond_false] at h
      rcases List.mem_cons.1 hn with rfl | hn
      · exact e
      · cases e2 : x.1 != i
        · rw [e2, cond_false] at h; exact nodesF_zero l _ h n hn
        · rw [e2, cond_true] at h; exact absurd h (by decide)
    · rw [bne_zero e, cond_true] at h; exact absurd h e
def nodeZ : TNode := (0, false, 0, 0, [], 0, 0, 0, 0, ())
def mailP (nodes : List TNode) (m : TMail) : Int := bif !inR m.2.1 0 1 then 1 else mailF (nodes.getD m.2.1.toNat nodeZ).1 m
def pairFault (p : TPair) : Int :=
  bif settingsFault p.1 != 0 then settingsFault p.1 else bif (p.2.1.length : Int) != 2 then 1 else bif (p.2.2.1.length : Int) != 3 then 1 else
  bif nodesF 0 p.2.1 != 0 then nodesF 0 p.2.1 else bif firstF wireFault p.2.2.1 != 0 then firstF wireFault p.2.2.1 else
  bif decide ((p.2.2.2.1.length : Int) > 40) then 2 else bif firstF (mailP p.2.1) p.2.2.2.1 != 0 then firstF (mailP p.2.1) p.2.2.2.1 else
  bif decide ((p.2.2.2.2.1.length : Int) > 100) then 2 else firstF entryFault p.2.2.2.2.1

theorem spec_l14Nodes.eq (k : Nat) (x : TPair × Unit) (h2 : x.1.2.1.length = 2) (hk : 200 < k) : spec_l14Nodes.F k x = some ((nodesF 0 x.1.2.1, ()), ()) := by
  obtain ⟨x, _⟩ := x
  simp only at h2
  unfold spec_l14Nodes.F
  refine loop_up (len := x.2.1.length) (fun n i (_ : Unit) => spec_l14Nodes.l2 k _ _ n x i) (fun _ _ => True) (fun i _ => some ((nodesF i (x.2.1.drop i), ()), ())) ?_ ?_ k 0 () (Nat.zero_le _) trivial (by omega)
  · rintro n s -
    simp only [spec_l14Nodes.l2]
    rw [decide_eq_false (by omega), cond_false]
    simp only [List.drop_length, nodesF]
  · rintro n i s hi -
    simp only [spec_l14Nodes.l2, inBn hi, cond_true, share_eq, getD_get _ hi]
    rw [decide_eq_true (by omega), cond_true, spec_l12Fault.eq k _ hk]
    simp only [Option.bind_some, drop_step hi, nodesF]
    cases h : nodeFault x.2.1[i] != 0
    · simp only [cond_false]
      cases h3 : x.2.1[i].1 != (i : Int)
      · exact .inr ⟨(), by rw [cond_false, next_i (by omega)], trivial, by simp only [cond_false]; rfl⟩
      · exact .inl (by simp only [cond_true])
    · exact .inl (by simp only [cond_true])
theorem getD_z {l : List TNode} {i : Nat} (h : i < l.length) (d : TNode) : l.getD i d = l.getD i nodeZ := by
  simp [List.getD, h]
theorem spec_l14Mails.eq (k : Nat) (x : TPair × Unit) (h2 : x.1.2.1.length = 2) (hk : 200 < k) :
    spec_l14Mails.F k x = some ((bif decide ((x.1.2.2.2.1.length : Int) > 40) then 2 else firstF (mailP x.1.2.1) x.1.2.2.2.1, ()), ()) := by
  obtain ⟨x, _⟩ := x
  simp only at h2
  unfold spec_l14Mails.F
  by_cases hl : (x.2.2.2.1.length : Int) > 40
  · simp only [decide_eq_true hl, cond_true]
  simp only [decide_eq_false hl, cond_false]
  refine loop_up (len := x.2.2.2.1.length) (fun n i (_ : Unit) => spec_l14Mails.l4 k _ _ n x i) (fun _ _ => True) (fun i _ => some ((firstF (mailP x.2.1) (x.2.2.2.1.drop i), ()), ())) ?_ ?_ k 0 () (Nat.zero_le _) trivial (by omega)
  · rintro n s -
    simp only [spec_l14Mails.l4, lt_dec_f, cond_false, List.drop_length, firstF]
  · rintro n i s hi -
    simp only [spec_l14Mails.l4, lt_dec hi, inBn hi, cond_true, share_eq, getD_get _ hi, spec_l1In.eq, Option.bind_some, drop_step hi, firstF, mailP]
    cases h : inR x.2.2.2.1[i].2.1 0 1
    · exact .inl (by simp only [Bool.not_false, cond_true]; rfl)
    · simp only [Bool.not_true, cond_false]
      have hr := inR_iff.1 h
      have hb : inB x.2.2.2.1[i].2.1 (x.2.1.length : Int) = true := by simp [inB]; omega
      rw [hb, cond_true, spec_l12Mail.eq]
      simp only [Option.bind_some]
      rw [getD_z (by omega)]
      cases h3 : mailF (x.2.1.getD x.2.2.2.1[i].2.1.toNat nodeZ).1 x.2.2.2.1[i] != 0
      · exact .inr ⟨(), by rw [cond_false, next_i (by omega)], trivial, by simp only [cond_false, mailP]⟩
      · exact .inl (by simp only [cond_true])
theorem spec_l14Fault.loopW {ρ : Type} (k : Nat) (c0 : Int × Unit → Option ρ) (c1 : TPair × Unit → Option ρ) (x : TPair) (hl : x.2.2.1.length ≤ 100) (hk : 200 < k) :
    spec_l14Fault.l10 k c0 c1 k x 0 = bif firstF wireFault x.2.2.1 != 0 then c0 (firstF wireFault x.2.2.1, ()) else c1 (x, ()) := by
  refine loop_up (len := x.2.2.1.length) (fun n i (_ : Unit) => spec_l14Fault.l10 k c0 c1 n x i) (fun _ _ => True) (fun i _ => bif firstF wireFault (x.2.2.1.drop i) != 0 then c0 (firstF wireFault (x.2.2.1.drop i), ()) else c1 (x, ())) ?_ ?_ k 0 () (Nat.zero_le _) trivial (by omega)
  · rintro n s -
    simp only [spec_l14Fault.l10, lt_dec_f, cond_false, List.drop_length, firstF, bne_self_eq_false]
  · rintro n i s hi -
    simp only [spec_l14Fault.l10, lt_dec hi, inBn hi, cond_true, share_eq, getD_get _ hi, spec_WireFault.eq, Option.bind_some, drop_step hi, firstF]
    cases h : wireFault x.2.2.1[i] != 0
    · exact .inr ⟨(), by rw [cond_false, next_i (by omega)], trivial, by simp only [cond_false]⟩
    · exact .inl (by simp only [cond_true, h])
theorem spec_l14Fault.loopS (k : Nat) (x : TPair) (hl : x.2.2.2.2.1.length ≤ 100) (hk : 200 < k) :
    spec_l14Fault.l21 k (fun e => some (e, ())) (fun _ => some (((0 : Int), ()), ())) k x 0 = some ((firstF entryFault x.2.2.2.2.1, ()), ()) := by
  refine loop_up (len := x.2.2.2.2.1.length) (fun n i (_ : Unit) => spec_l14Fault.l21 k _ _ n x i) (fun _ _ => True) (fun i _ => some ((firstF entryFault (x.2.2.2.2.1.drop i), ()), ())) ?_ ?_ k 0 () (Nat.zero_le _) trivial (by omega)
  · rintro n s -
    simp only [spec_l14Fault.l21, lt_dec_f, cond_false, List.drop_length, firstF]
  · rintro n i s hi -
    simp only [spec_l14Fault.l21, lt_dec hi, inBn hi, cond_true, share_eq, getD_get _ hi, spec_EntryFault.eq, Option.bind_some, drop_step hi, firstF]
    cases h : entryFault x.2.2.2.2.1[i] != 0
    · exact .inr ⟨(), by rw [cond_false, next_i (by omega)], trivial, by simp only [cond_false]⟩
    · exact .inl (by simp only [cond_true])
theorem bne_true {a b : Int} (h : (a != b) = false) : a = b := by simpa using h
theorem spec_PairFault.eq (k : Nat) (x : TPair × Unit) (hk : 200 < k) : spec_PairFault.F k x = some ((pairFault x.1, ()), ()) := by
  obtain ⟨x, _⟩ := x
  unfold spec_PairFault.F spec_l14Fault.F pairFault
  rw [spec_SettingsFault.eq k _ (by omega)]
  simp only [Option.bind_some]
  cases h0 : settingsFault x.1 != 0
  case true => rfl
  cases h1 : (x.2.1.length : Int) != 2
  case true => rfl
  cases h2 : (x.2.2.1.length : Int) != 3
  case true => rfl
  have l2 : x.2.1.length = 2 := by have := bne_true h1; omega
  have l3 : x.2.2.1.length = 3 := by have := bne_true h2; omega
  simp only [cond_false]
  rw [spec_l14Nodes.eq k _ l2 hk]
  simp only [Option.bind_some]
  cases h3 : nodesF 0 x.2.1 != 0
  case true => rfl
  simp only [cond_false]
  rw [spec_l14Fault.loopW k _ _ x (by omega) hk]
  cases h4 : firstF wireFault x.2.2.1 != 0
  case true => rfl
  simp only [cond_false]
  rw [spec_l14Mails.eq k _ l2 hk]
  simp only [Option.bind_some]
  by_cases h5 : (x.2.2.2.1.length : Int) > 40
  · simp only [decide_eq_true h5, cond_true]; rfl
  simp only [decide_eq_false h5, cond_false]
  cases h6 : firstF (mailP x.2.1) x.2.2.2.1 != 0
  case true => rfl
  simp only [cond_false]
  by_cases h7 : (x.2.2.2.2.1.length : Int) > 100
  · simp only [decide_eq_true h7, cond_true]; rfl
  simp only [decide_eq_false h7, cond_false]
  rw [spec_l14Fault.loopS k x (by omega) hk]
  rfl

/-! ### The program's -/
theorem impl_PairFault.loopN {ρ : Type} (k : Nat) (c0 : Int × Unit → Option ρ) (c1 : Int × Int × Int × Int × List TRule × List TRule × List TNode × List TWire × List TMail × List TEntry × Unit → Option ρ)
    (l : List TNode) (a b c d : Int) (r1 r2 : List TRule) (ns : List TNode) (ws : List TWire) (ms : List TMail) (se : List TEntry) (hl : l.length ≤ 100) (hk : 200 < k) :
    impl_PairFault.l7 k c0 c1 k l l.length 0 a b c d r1 r2 ns ws ms se = bif nodesF 0 l != 0 then c0 (nodesF 0 l, ()) else c1 (a, b, c, d, r1, r2, ns, ws, ms, se, ()) := by
  refine loop_up (len := l.length) (fun n i (_ : Unit) => impl_PairFault.l7 k c0 c1 n l l.length i a b c d r1 r2 ns ws ms se) (fun _ _ => True) (fun i _ => bif nodesF i (l.drop i) != 0 then c0 (nodesF i (l.drop i), ()) else c1 (a, b, c, d, r1, r2, ns, ws, ms, se, ())) ?_ ?_ k 0 () (Nat.zero_le _) trivial (by omega)
  · rintro n s -
    simp only [impl_PairFault.l7, lt_dec_f, cond_false, List.drop_length, nodesF, bne_self_eq_false]
  · rintro n i s hi -
    simp only [impl_PairFault.l7, lt_dec hi, inBn hi, cond_true, share_eq, getD_get _ hi]
    rw [impl_NodeFault.eq k _ hk]
    simp only [Option.bind_some, drop_step hi, nodesF]
    cases h : nodeFault l[i] != 0
    · simp only [cond_false]
      cases h3 : l[i].1 != (i : Int)
      · exact .inr ⟨(), by rw [cond_false, next_i (by omega)], trivial, by simp only [cond_false]; rfl⟩
      · exact .inl (by simp only [cond_true]; rfl)
    · exact .inl (by simp only [cond_true, h])
theorem impl_PairFault.loopW {ρ : Type} (k : Nat) (c0 : Int × Unit → Option ρ) (c1 : Int × Int × Int × Int × List TRule × List TRule × List TNode × List TWire × List TMail × List TEntry × Unit → Option ρ)
    (l : List TWire) (a b c d : Int) (r1 r2 : List TRule) (ns : List TNode) (ws : List TWire) (ms : List TMail) (se : List TEntry) (hl : l.length ≤ 100) (hk : 200 < k) :
    impl_PairFault.l16 k c0 c1 k l l.length 0 a b c d r1 r2 ns ws ms se = bif firstF wireFault l != 0 then c0 (firstF wireFault l, ()) else c1 (a, b, c, d, r1, r2, ns, ws, ms, se, ()) := by
  refine loop_up (len := l.length) (fun n i (_ : Unit) => impl_PairFault.l16 k c0 c1 n l l.length i a b c d r1 r2 ns ws ms se) (fun _ _ => True) (fun i _ => bif firstF wireFault (l.drop i) != 0 then c0 (firstF wireFault (l.drop i), ()) else c1 (a, b, c, d, r1, r2, ns, ws, ms, se, ())) ?_ ?_ k 0 () (Nat.zero_le _) trivial (by omega)
  · rintro n s -
    simp only [impl_PairFault.l16, lt_dec_f, cond_false, List.drop_length, firstF, bne_self_eq_false]
  · rintro n i s hi -
    simp only [impl_PairFault.l16, lt_dec hi, inBn hi, cond_true, share_eq, getD_get _ hi, impl_WireFault.eq, Option.bind_some, drop_step hi, firstF]
    cases h : wireFault l[i] != 0
    · exact .inr ⟨(), by rw [cond_false, next_i (by omega)], trivial, by simp only [cond_false]⟩
    · exact .inl (by simp only [cond_true, h])
theorem impl_PairFault.loopM {ρ : Type} (k : Nat) (c0 : Int × Unit → Option ρ) (c1 : Int × Int × Int × Int × List TRule × List TRule × List TNode × List TWire × List TMail × List TEntry × Unit → Option ρ)
    (l : List TMail) (a b c d : Int) (r1 r2 : List TRule) (ns : List TNode) (ws : List TWire) (ms : List TMail) (se : List TEntry) (h2 : ns.length = 2) (hn : nodesF 0 ns = 0) (hl : l.length ≤ 100) (hk : 200 < k) :
    impl_PairFault.l25 k c0 c1 k l l.length 0 a b c d r1 r2 ns ws ms se = bif firstF (mailP ns) l != 0 then c0 (firstF (mailP ns) l, ()) else c1 (a, b, c, d, r1, r2, ns, ws, ms, se, ()) := by
  refine loop_up (len := l.length) (fun n i (_ : Unit) => impl_PairFault.l25 k c0 c1 n l l.length i a b c d r1 r2 ns ws ms se) (fun _ _ => True) (fun i _ => bif firstF (mailP ns) (l.drop i) != 0 then c0 (firstF (mailP ns) (l.drop i), ()) else c1 (a, b, c, d, r1, r2, ns, ws, ms, se, ())) ?_ ?_ k 0 () (Nat.zero_le _) trivial (by omega)
  · rintro n s -
    simp only [impl_PairFault.l25, lt_dec_f, cond_false, List.drop_length, firstF, bne_self_eq_false]
  · rintro n i s hi -
    simp only [impl_PairFault.l25, lt_dec hi, inBn hi, cond_true, share_eq, getD_get _ hi, impl_isNode.eq, Option.bind_some, drop_step hi, firstF, mailP]
    cases h : inR l[i].2.1 0 1
    · exact .inl (by simp only [Bool.not_false, cond_true]; rfl)
    · simp only [Bool.not_true, cond_false]
      have hr := inR_iff.1 h
      have hb : inB l[i].2.1 (ns.length : Int) = true := by simp [inB]; omega
      have hj : l[i].2.1.toNat < ns.length := by omega
      rw [hb, cond_true, impl_MailFault.eq k _ hk]
      simp only [Option.bind_some]
      rw [getD_z hj]
      have h0 : nodeFault (ns.getD l[i].2.1.toNat nodeZ) = 0 := nodesF_zero ns 0 hn _ (by simp [List.getD, hj])
      rw [h0, bne_self_eq_false, cond_false]
      cases h3 : mailF (ns.getD l[i].2.1.toNat nodeZ).1 l[i] != 0
      · exact .inr ⟨(), by rw [cond_false, next_i (by omega)], trivial, by simp only [cond_false, mailP]⟩
      · exact .inl (by simp only [cond_true, h3])
theorem impl_PairFault.loopS (k : Nat) (l : List TEntry) (hl : l.length ≤ 100) (hk : 200 < k) :
    impl_PairFault.l36 k (fun e => some (e, ())) (fun _ => some (((0 : Int), ()), ())) k l l.length 0 = some ((firstF entryFault l, ()), ()) := by
  refine loop_up (len := l.length) (fun n i (_ : Unit) => impl_PairFault.l36 k _ _ n l l.length i) (fun _ _ => True) (fun i _ => some ((firstF entryFault (l.drop i), ()), ())) ?_ ?_ k 0 () (Nat.zero_le _) trivial (by omega)
  · rintro n s -
    simp only [impl_PairFault.l36, lt_dec_f, cond_false, List.drop_length, firstF]
  · rintro n i s hi -
    simp only [impl_PairFault.l36, lt_dec hi, inBn hi, cond_true, share_eq, getD_get _ hi, impl_EntryFault.eq, Option.bind_some, drop_step hi, firstF]
    cases h : entryFault l[i] != 0
    · exact .inr ⟨(), by rw [cond_false, next_i (by omega)], trivial, by simp only [cond_false]⟩
    · exact .inl (by simp only [cond_true])
theorem impl_PairFault.eq (k : Nat) (x : TPair × Unit) (hk : 200 < k) : impl_PairFault.F k x = some ((pairFault x.1, ()), ()) := by
  obtain ⟨x, _⟩ := x
  unfold impl_PairFault.F pairFault
  rw [impl_SettingsFault.eq k _ (by omega)]
  simp only [Option.bind_some]
  cases h0 : settingsFault x.1 != 0
  case true => rfl
  cases h1 : (x.2.1.length : Int) != 2
  case true => rfl
  cases h2 : (x.2.2.1.length : Int) != 3
  case true => rfl
  have l2 : x.2.1.length = 2 := by have := bne_true h1; omega
  have l3 : x.2.2.1.length = 3 := by have := bne_true h2; omega
  simp only [cond_false]
  rw [impl_PairFault.loopN k _ _ _ _ _ _ _ _ _ _ _ _ _ (by omega) hk]
  cases h3 : nodesF 0 x.2.1 != 0
  case true => rfl
  have n0 := bne_true h3
  simp only [cond_false]
  rw [impl_PairFault.loopW k _ _ _ _ _ _ _ _ _ _ _ _ _ (by omega) hk]
  cases h4 : firstF wireFault x.2.2.1 != 0
  case true => rfl
  simp only [cond_false]
  by_cases h5 : (x.2.2.2.1.length : Int) > 40
  · simp only [decide_eq_true h5, cond_true]
  simp only [decide_eq_false h5, cond_false]
  rw [impl_PairFault.loopM k _ _ _ _ _ _ _ _ _ _ _ _ _ l2 n0 (by omega) hk]
  cases h6 : firstF (mailP x.2.1) x.2.2.2.1 != 0
  case true => rfl
  simp only [cond_false]
  by_cases h7 : (x.2.2.2.2.1.length : Int) > 100
  · simp only [decide_eq_true h7, cond_true]
  simp only [decide_eq_false h7, cond_false]
  rw [impl_PairFault.loopS k _ (by omega) hk]
end Go.Proofs.Ythnidahfdnnboaa
/- PairFault: the program's and the reference's answers are one, in plain words. -/
set_option linter.unusedVariables false
set_option linter.unusedSimpArgs false
namespace Go.Proofs.Ythnidahfdnnboaa
open Go Go.Dn
theorem FnExactPairFaultPure (x : TPair) (hw : kPair.wf x) (hb : kPair.big x ≤ 1048576) : ∃ k, laws_FnExactPairFault.F k (x, ()) = some ((true, ()), ()) := by
  refine ⟨8589934592, ?_⟩
  unfold laws_FnExactPairFault.F
  obtain ⟨c, h1, h2, h3⟩ := laws_szPair.tot 8589934592 (x, 1048576, ()) (by simp only; omega) (by simp only; omega) (by simp only; omega) (by simp only; omega)
  simp only [h1, Option.bind_some]
  by_cases hc : c < 0
  · rw [decide_eq_true hc]; rfl
  rw [decide_eq_false hc, cond_false, laws_toPair.eq _ _ (by simp only; omega) (by simp only; omega)]
  simp only [Option.bind_some]
  rw [spec_PairFault.eq _ _ (by omega), impl_PairFault.eq _ _ (by omega)]
  simp only [Option.bind_some, bne_self_eq_false, cond_false]
  rw [laws_eqPair.refl _ _ rfl (by simp only; omega) (by simp only; omega)]
  rfl
end Go.Proofs.Ythnidahfdnnboaa
/- FnExactPairFault: for every input of the second form's bound the law returns true and its arguments read as before. -/
namespace Go.Proofs.Ythnidahfdnnboaa.fnExactPairFault
open Go.ChangeShapes Go.WideShapes Go.ChangeAt Go.RowKit Go.Dn
set_option linter.unusedVariables false
set_option maxRecDepth 100000
theorem own : ownKnob Try.prog.godebug = none := by kernel_rfl
theorem laidOut : laidOutB Try.prog = true := by kernel_rfl
theorem bulkOk (H : Type) : BulkOk (H := H) Rows.uptoBulk Rows.uptoBulkAll := by
  refine ⟨fun _ _ => ?_, fun _ => ?_, fun _ => ?_, ?_, fun _ _ => ?_, fun _ => ?_, ?_, fun _ _ => ?_⟩ <;> simp [Rows.uptoBulk, Rows.uptoBulkAll]
theorem contract (H : Type) (enc : TypeId × Value → H) (W : World) (base : Nat) (args : Array Value) (ds gs : List (DataW H)) (before : List MemPlace)
    (hval0 : ∀ (j : Nat) t v, Try.f10.params[j]? = some t → args[j]? = some v → Value.okWide Try.prog W .any base t v)
    (hW : DataW.Whole enc Try.prog Try.f10.params.toList Rows.fnExactPairFaultSpec.vars false W args.toList ds gs before) (hk : Rows.uptoSmall H (ds ++ gs) = true) :
    Calls Try.prog 10 args W fun e W' => ∃ v, e = .returned v ∧ Rows.fnExactPairFaultSpec.post enc Try.prog Try.f10 false true false false W args v W' := by
  have hval : ∀ (j : Nat) t v, Try.f10.params[j]? = some t → args[j]? = some v → Value.okWide Try.prog W .any base t v := hval0
  have hW' := hW
  obtain ⟨p, q, hA0, hV, rfl, hfz, hnd⟩ := hW
  have hA : DataW.TrodAll enc Try.prog W 0 (fun _ => true) true Try.f10.params.toList args.toList ds p := hA0
  rw [Try.params10] at hA hval
  obtain ⟨v0, vs0, d0, ds0, p0, q0, hargs, rfl, rfl, h0, r0⟩ := trodAll_cons hA
  obtain ⟨rfl, rfl, rfl⟩ := trodAll_nil r0
  obtain rfl : args = #[v0] := by cases args; simp_all
  obtain ⟨rfl, rfl⟩ := trodVars_none hV
  have hb : Rows.uptoBulkAll [d0] ≤ 1048576 := by simpa [Rows.uptoSmall] using hk
  obtain ⟨y0, us0, pk0, hh0, wf0, bg0⟩ := open_arg (bulkOk H) (κ := _) (t := 143) (tysOk0.1 143 _ rfl) (hval 0 143 v0 rfl rfl) h0
  have k0 := h0
  have lt0 : ∀ x ∈ p0, x.block < W.heap.size := by obtain ⟨m, hm⟩ := k0; exact DataW.trod_lt m _ _ _ hm
  have bi0 := (bulkOk H).le [d0] d0 (by simp)
  obtain ⟨k, hF⟩ := FnExactPairFaultPure y0 wf0 (by omega)
  have hcall := law_of (laws_FnExactPairFault.ok k) hF (w := W) (vs := [v0]) ⟨v0, us0, _, rfl, pk0, hh0, rfl⟩
  refine hcall.mono fun e W' ⟨he, bel⟩ => ?_
  subst he
  exact ⟨_, rfl, _, _, _, [], _, [], hW', trodAll_mk1 (shut_bool Try.underlying4 _), (trodAll_cons_mk (Below.trod laidOut (by kernel_rfl) (of_decide_eq_true (by kernel_rfl)) k0 bel lt0) trodAll_mk0), rfl, bel.frame _, fun h => by cases h⟩
theorem lifted (os : Os) (started : os.Started) (H : Type) (enc : TypeId × Value → H) (F : Stop.Interp) :
    ReturnsInHanded {} Try.checked os 10 .any ((Rows.OpenSpec.upto Rows.fnExactPairFaultSpec).pre6 enc Try.prog Try.f10 Rows.fnExactPairFaultUptoRow.domain false) (((Rows.OpenSpec.upto Rows.fnExactPairFaultSpec).at F).post enc Try.prog Try.f10 false true false false) := by
  refine returnsInHanded_of_cond (C := Try.checked) (s := Rows.OpenSpec.upto Rows.fnExactPairFaultSpec) (k := Rows.uptoSmall) rfl own started (by kernel_rfl) Try.func10
    (OpenSpec.witness (enc := enc) (C := Try.checked) (s := Rows.OpenSpec.upto Rows.fnExactPairFaultSpec) (k := Rows.uptoSmall) rfl false ⟨#[], #[.agg #[.int .i64 0, .int .i64 0, .int .i64 0, .int .i64 0, .slice none 0 0, .slice none 0 0, .slice none 0 0, .slice none 0 0, .slice none 0 0, .slice none 0 0]], []⟩ 8 (by kernel_rfl) (by kernel_rfl) (by kernel_rfl)
      (x := ([.agg [.agg [.agg [.lit (.int .i64 0), .lit (.int .i64 0), .lit (.int .i64 0)], .lit (.int .i64 0), .nil, .nil], .nil, .nil, .nil, .nil]], [], [])) (by kernel_rfl) rfl (by kernel_rfl)) ?_
  intro W base args ds gs before hval hW _ hk _
  exact contract H enc W base args ds gs before hval hW hk
abbrev rc := Rows.fnExactPairFaultUptoRow
noncomputable abbrev rP := Try.pinned.checked.prog
noncomputable abbrev rf := Try.f10
noncomputable abbrev rs := (Rows.OpenSpec.upto Rows.fnExactPairFaultSpec).bare
theorem j0 : (rc.wf (OpenSpec.ofChange rs) && laidOutB rP && mapsRowed rP && rf.params.all (rP.readableRec ·) && namedTie rP rc.named rs.vars && (rc.stops == []) && (rP.stops == []) && (rc.knobs == []) && (rP.stopKnobs == [])) = true := by kernel_rfl
theorem j1 : ((rc.inPlace == rP.inPlace 10)) = true := by kernel_rfl
theorem j2 : ((rc.unfollowed == rP.unfollowed 10)) = true := by kernel_rfl
theorem j3 : ((rc.recurses == rP.recurses 10)) = true := by kernel_rfl
theorem j4 : ((rc.named == rP.varsNamed 10)) = true := by kernel_rfl
theorem j5 : ((rc.maps == (rf.params.toList ++ rs.plain.varTypes rP).any (rP.mapsRec ·))) = true := by kernel_rfl
theorem j6 : ((rc.ifaces == (rf.params.toList ++ rs.plain.varTypes rP).any (rP.ifacesRec ·))) = true := by kernel_rfl
theorem j7 : ((rc.mapsOut == rP.mapsAmong rf.resultTypes.toList)) = true := by kernel_rfl
theorem j8 : ((rc.loops == (rf.params.toList ++ rs.plain.varTypes rP).any (rP.loopsFrom ·))) = true := by kernel_rfl
theorem j9 : ((rc.wideKeys == (rf.params.toList ++ rs.plain.varTypes rP ++ rf.resultTypes.toList).any (rP.wideKeysFrom ·))) = true := by kernel_rfl
theorem j10 : (rs.vars.all (rP.varReadable ·)) = true := by kernel_rfl
theorem j11 : (rf.resultTypes.all (fun t => rP.readableRec t && decide (t < rP.types.size))) = true := by kernel_rfl
theorem j12 : ((rc.ifacesOut == rf.resultTypes.toList.any (rP.ifacesRec ·))) = true := by kernel_rfl
theorem j13 : ((rc.loopsOut == rf.resultTypes.toList.any (rP.loopsFrom ·))) = true := by kernel_rfl
theorem j14 : ((rc.plainKeys == rP.plainKeys)) = true := by kernel_rfl
theorem j15 : (rc.shortTexts.isNone) = true := by kernel_rfl
theorem j16 : (rP.stopsHeard) = true := by kernel_rfl
theorem j17 : (rP.mayEnter) = true := by kernel_rfl
theorem j18 : ((rc.lifted == rP.liftsFinal)) = true := by kernel_rfl
theorem j19 : ((rP.make == some rc.make)) = true := by kernel_rfl
theorem j20 : ((rc.kinds == (if rc.domain.isEmpty then [] else rf.params.toList.map fun t => match rP.underlying t with | some (.int k) => some k | _ => none))) = true := by kernel_rfl
theorem j21 : ((rc.pinned == rc.pinnedBy)) = true := by kernel_rfl
theorem j22 : ((rc.veiled == (rf.params.toList ++ rs.plain.varTypes rP ++ rf.resultTypes.toList).any (rP.veiledRec ·))) = true := by kernel_rfl
theorem j23 : (rc.veiledFits rP rf.params.toList (rf.params.toList ++ rs.plain.varTypes rP ++ rf.resultTypes.toList)) = true := by kernel_rfl
theorem and2 {a b : Bool} (h : a = true) (h2 : b = true) : (a && b) = true := by rw [h, h2]; rfl
theorem facts : joinedFacts rP 10 rf rs rc = true := (and2 (and2 (and2 (and2 (and2 (and2 (and2 (and2 (and2 (and2 (and2 (and2 (and2 (and2 (and2 (and2 (and2 (and2 (and2 (and2 (and2 (and2 (and2 j0 j1) j2) j3) j4) j5) j6) j7) j8) j9) j10) j11) j12) j13) j14) j15) j16) j17) j18) j19) j20) j21) j22) j23)
theorem named : Try.pinned.checked.prog.funcNamed Rows.fnExactPairFaultUptoRow.func = some 10 := by kernel_rfl
theorem inst : Try.f10.isInstance Try.pinned.checked.prog Rows.fnExactPairFaultUptoRow.origin Rows.fnExactPairFaultUptoRow.targs := of_decide_eq_true (by kernel_rfl)
theorem wrap : Try.f10.isWrapper Try.pinned.checked.prog Rows.fnExactPairFaultUptoRow.wrapper Rows.fnExactPairFaultUptoRow.mainSum := by unfold Func.isWrapper; first | (rw [if_pos (by decide +kernel)]; kernel_rfl) | (rw [if_neg (by decide +kernel)]; exact ⟨rfl, rfl⟩)
theorem over : Rows.fnExactPairFaultUptoRow.holds Try.pinned (Rows.OpenSpec.upto Rows.fnExactPairFaultSpec) :=
  OpenClaim.holds_of_cond 10 Try.f10 rfl rfl rfl rfl rfl rfl rfl ⟨rfl, rfl, rfl, rfl, rfl⟩ rfl rfl rfl rfl rfl named Try.func10 facts
    inst wrap
    (fun os started H enc _ F => lifted os started H enc F)
theorem proved : Rows.FnExactPairFaultUptoSaid := over
end Go.Proofs.Ythnidahfdnnboaa.fnExactPairFault
namespace Go.Proofs.Ythnidahfdnnboaa
/-- The row, under a short name, for the claim. -/
theorem fnExactPairFault_holds : Rows.FnExactPairFaultUptoSaid := fnExactPairFault.proved
end Go.Proofs.Ythnidahfdnnboaa
