/- What routes tell a peer under rules, the program's ExportTo and the reference's ExportTo tell alike, whatever routes, rules and numbers there are. -/
import Derived.Test.YthnidahfdnnboaaProg
import Derived.KernelRfl
import Derived.Test.YthnidahfdnnboaaYthXT20
import Derived.Test.YthnidahfdnnboaaYthXT21
import Derived.Test.YthnidahfdnnboaaYthXT22
set_option linter.unusedVariables false
set_option maxRecDepth 100000
namespace Go.Proofs.Ythnidahfdnnboaa
open Go Go.Dn
noncomputable section
def kerrorAddressString : K := (.pair .str (.pair (.int .u64) .unit))
def kPrefix : K := (.pair (.int .i64) (.pair (.int .i64) .unit))
def kl1Src : K := (.pair (.sl (.int .u8)) (.pair (.int .i64) .unit))
def kConfig : K := (.pair (.int .i64) kPrefix)
def kFrame : K := (.pair (.int .i64) (.pair (.sl (.int .u8)) .unit))
def kboundsError : K := (.pair (.int .i64) (.pair (.int .i64) (.pair .bool (.pair (.int .u8) .unit))))
def kEvent : K := (.pair (.int .i64) kFrame)
def kAttrs : K := (.pair (.int .i64) (.pair (.sl (.int .i64)) kConfig))
def kWire : K := (.pair (.int .i64) (.pair (.sl (.int .u8)) kFrame))
def kSession : K := (.pair (.int .i64) (.pair (.int .i64) kConfig))
def kEntry : K := (.pair (.int .i64) (.pair kEvent .unit))
def kTold : K := (.pair kPrefix (.pair kAttrs .unit))
def kRule : K := (.pair kPrefix (.pair (.int .i64) (.pair (.int .i64) (.pair (.int .i64) (.pair .bool kPrefix)))))
def kUpdate : K := (.pair (.sl kPrefix) (.pair .bool (.pair kAttrs (.pair (.sl kPrefix) .unit))))
def kRoute : K := (.pair (.int .i64) kTold)
def kAttrsResult : K := (.pair (.int .i64) (.pair (.int .i64) (.pair kAttrs .unit)))
def kWireResult : K := (.pair (.int .i64) (.pair (.sl (.int .u8)) (.pair kWire .unit)))
def kToldResult : K := (.pair (.int .i64) (.pair (.sl kTold) .unit))
def kRouteResult : K := (.pair (.int .i64) (.pair kRoute .unit))
def kUpdatesResult : K := (.pair (.int .i64) (.pair (.sl kUpdate) .unit))
def kLink : K := (.pair kSession (.pair (.sl (.int .u8)) (.pair (.sl kTold) .unit)))
def kNode : K := (.pair (.int .i64) (.pair .bool (.pair (.int .i64) (.pair (.int .i64) (.pair (.sl kEntry) (.pair (.int .i64) kConfig))))))
def kSettings : K := (.pair kConfig (.pair (.int .i64) (.pair (.sl kRule) (.pair (.sl kRule) .unit))))
def kMail : K := (.pair (.int .i64) (.pair (.int .i64) (.pair (.int .i64) (.pair (.int .i64) (.pair (.int .i64) (.pair .bool (.pair kEntry .unit)))))))
def kRouter : K := (.pair kSettings (.pair (.sl kLink) (.pair (.sl kRoute) .unit)))
def kMessage : K := (.pair (.int .i64) (.pair (.int .i64) (.pair (.int .i64) (.pair (.int .i64) (.pair (.int .i64) (.pair (.int .i64) (.pair kUpdate .unit)))))))
def kRouterResult : K := (.pair (.int .i64) (.pair kRouter (.pair (.sl (.sl (.int .u8))) .unit)))
def kNodeResult : K := (.pair (.int .i64) (.pair kNode (.pair (.sl kMail) .unit)))
def kPair : K := (.pair kSettings (.pair (.sl kNode) (.pair (.sl kWire) (.pair (.sl kMail) (.pair (.sl kEntry) .unit)))))
def kPairResult : K := (.pair (.int .i64) (.pair (.sl (.int .u8)) (.pair kPair .unit)))
def tys : List (Nat × K) := [(2, (.int .i64)), (3, (.int .i64)), (4, .bool), (5, (.int .u8)), (6, (.int .u8)), (7, kboundsError), (8, kboundsError), (9, .str), (10, .str), (11, .str), (12, (.int .u64)), (13, kerrorAddressString), (14, kerrorAddressString), (21, (.int .i32)), (22, (.sl (.int .u8))), (24, (.sl kTold)), (27, (.sl kUpdate)), (28, kUpdatesResult), (29, kUpdatesResult), (32, (.sl kPrefix)), (33, (.sl (.int .i64))), (34, kAttrs), (35, kAttrs), (36, kUpdate), (37, kUpdate), (38, kToldResult), (39, kToldResult), (43, (.sl kEntry)), (44, kNode), (45, kNode), (46, kEvent), (47, kEvent), (48, kEntry), (49, kEntry), (50, kMail), (51, kMail), (54, (.sl kMail)), (55, kNodeResult), (56, kNodeResult), (61, (.sl kRoute)), (62, (.sl kRule)), (66, kPrefix), (67, kPrefix), (68, kRoute), (69, kRoute), (70, kRouteResult), (71, kRouteResult), (73, kTold), (74, kTold), (76, (.sl kEntry)), (77, kNode), (78, kNode), (79, kEvent), (80, kEntry), (81, kEntry), (82, kMail), (83, kMail), (95, (.sl kTold)), (96, (.sl kUpdate)), (107, kConfig), (108, kConfig), (109, (.sl kRule)), (110, kSettings), (111, kSettings), (113, kConfig), (114, kSettings), (115, kSettings), (116, (.sl kNode)), (117, (.sl kWire)), (118, kPair), (119, kPair), (120, kPairResult), (121, kPairResult), (129, (.sl kRoute)), (139, (.sl kNode)), (140, (.sl kWire)), (141, (.sl kMail)), (142, kPair), (143, kPair), (195, kPrefix), (196, kAttrs), (197, kTold), (198, kTold), (200, (.sl kPrefix)), (201, kUpdate), (202, kUpdate), (213, kWire), (214, kWire), (216, (.sl kLink)), (217, kRouter), (218, kRouter), (219, (.sl (.sl (.int .u8)))), (220, kRouterResult), (221, kRouterResult), (228, kRoute), (229, kRoute), (231, kRule), (232, kRule), (234, kRule), (235, kRule), (262, (.sl (.sl kPrefix))), (282, kl1Src), (283, kl1Src), (289, kAttrsResult), (290, kAttrsResult), (313, kWire), (320, (.int .u64)), (321, (.sl (.int .i64))), (348, kMessage), (349, kMessage), (352, (.int .u32)), (355, (.int .u64)), (362, kFrame), (363, kFrame), (374, (.int .u8)), (375, (.int .u8)), (378, (.int .i32)), (379, (.int .i32)), (384, kSession), (385, kSession), (386, kLink), (387, kLink), (391, kWireResult), (392, kWireResult)]
def bys : List (Nat × Nat) := [(22, 1), (24, 72), (27, 112), (32, 16), (33, 8), (43, 48), (54, 96), (61, 80), (62, 64), (76, 48), (95, 72), (96, 112), (109, 64), (116, 88), (117, 64), (129, 80), (139, 88), (140, 64), (141, 96), (200, 16), (216, 88), (219, 24), (262, 24), (321, 8)]
def eqs : List Nat := [67, 108, 113, 195, 385]
theorem tysOk0 : TysOk Try.prog ⟨tys, bys, [], []⟩ := tysB_spec (by kernel_rfl)
theorem tysOk (fns : List (Nat × FEnt)) (es : List Nat) : TysOk Try.prog ⟨tys, bys, fns, es⟩ := tysOk0
theorem eqsOk0 : EqsOk Try.prog ⟨tys, bys, [], eqs⟩ := eqsB_spec tysOk0 (by kernel_rfl)
theorem eqsOk (fns : List (Nat × FEnt)) : EqsOk Try.prog ⟨tys, bys, fns, eqs⟩ := eqsOk0
def spec_l1In.sg : Sig := ⟨[.b (.int .i64), .b (.int .i64), .b (.int .i64)], [(.bool, .rd)]⟩
def spec_l1In.E : Env := ⟨tys, bys, [], eqs⟩
def spec_l1In.F (k : Nat) (x : (Int × (Int × (Int × Unit)))) : Option ((Bool × Unit) × Unit) :=
  bif (decide ((x.1 ≥ x.2.1))) then
  (some (((decide ((x.1 ≤ x.2.2.1))), ()), ()))
  else some ((false, ()), ())
def spec_l1In.hd : Hints := ⟨[], [], [6], [0, 1, 2], []⟩
def spec_l1In.lps (k : Nat) : List (Nat × Lp spec_l1In.sg.Out) := []
theorem spec_l1In.loops (k : Nat) : LoopsOk spec_l1In.E k spec_l1In.hd (spec_l1In.lps k) (loopsOf (Go.Proofs.Try.f121.body.getD .skip)) := trivial
theorem spec_l1In.den (k : Nat) (x : Sig.In spec_l1In.sg.ps) : denFn spec_l1In.E k Go.Proofs.Try.f121 spec_l1In.sg spec_l1In.hd (runL k spec_l1In.hd (spec_l1In.lps k)) x = spec_l1In.F k x := by kernel_rfl
theorem spec_l1In.ok (k : Nat) : Contract Try.prog 121 spec_l1In.sg (spec_l1In.F k) := ok_of (E := spec_l1In.E) (tysOk _ _) (eqsOk _) trivial Try.func121 rfl (by kernel_rfl) (spec_l1In.loops k) (spec_l1In.den k)
def spec_l2Addr.sg : Sig := ⟨[.b (.int .i64)], [(.bool, .rd)]⟩
def spec_l2Addr.E : Env := ⟨tys, bys, [(121, ⟨spec_l1In.sg, spec_l1In.F⟩)], eqs⟩
def spec_l2Addr.F (k : Nat) (x : (Int × Unit)) : Option ((Bool × Unit) × Unit) :=
  (spec_l1In.F k (x.1, (0 : Int), (65535 : Int), ())).bind fun y0 =>
  some y0
def spec_l2Addr.hd : Hints := ⟨[], [], [2], [0], []⟩
def spec_l2Addr.lps (k : Nat) : List (Nat × Lp spec_l2Addr.sg.Out) := []
theorem spec_l2Addr.loops (k : Nat) : LoopsOk spec_l2Addr.E k spec_l2Addr.hd (spec_l2Addr.lps k) (loopsOf (Go.Proofs.Try.f122.body.getD .skip)) := trivial
theorem spec_l2Addr.den (k : Nat) (x : Sig.In spec_l2Addr.sg.ps) : denFn spec_l2Addr.E k Go.Proofs.Try.f122 spec_l2Addr.sg spec_l2Addr.hd (runL k spec_l2Addr.hd (spec_l2Addr.lps k)) x = spec_l2Addr.F k x := by kernel_rfl
theorem spec_l2Addr.ok (k : Nat) : Contract Try.prog 122 spec_l2Addr.sg (spec_l2Addr.F k) := ok_of (E := spec_l2Addr.E) (tysOk _ _) (eqsOk _) ⟨spec_l1In.ok k, trivial⟩ Try.func122 rfl (by kernel_rfl) (spec_l2Addr.loops k) (spec_l2Addr.den k)
def spec_l2Rest.sg : Sig := ⟨[.b (.int .i64)], [((.int .i64), .rd)]⟩
def spec_l2Rest.E : Env := ⟨tys, bys, [], eqs⟩
def spec_l2Rest.F (k : Nat) (x : (Int × Unit)) : Option ((Int × Unit) × Unit) :=
  bif (decide (((IntKind.wrap .u64 (IntKind.wrap .i64 ((16 : Int) - x.1))) < (0 : Int)))) then
  (none)
  else some (((IntKind.wrap .i64 ((Go.Dn.shlV .i64 (1 : Int) (IntKind.wrap .u64 (IntKind.wrap .i64 ((16 : Int) - x.1)))) - (1 : Int))), ()), ())
def spec_l2Rest.hd : Hints := ⟨[], [], [2], [0], []⟩
def spec_l2Rest.lps (k : Nat) : List (Nat × Lp spec_l2Rest.sg.Out) := []
theorem spec_l2Rest.loops (k : Nat) : LoopsOk spec_l2Rest.E k spec_l2Rest.hd (spec_l2Rest.lps k) (loopsOf (Go.Proofs.Try.f270.body.getD .skip)) := trivial
theorem spec_l2Rest.den (k : Nat) (x : Sig.In spec_l2Rest.sg.ps) : denFn spec_l2Rest.E k Go.Proofs.Try.f270 spec_l2Rest.sg spec_l2Rest.hd (runL k spec_l2Rest.hd (spec_l2Rest.lps k)) x = spec_l2Rest.F k x := by kernel_rfl
theorem spec_l2Rest.ok (k : Nat) : Contract Try.prog 270 spec_l2Rest.sg (spec_l2Rest.F k) := ok_of (E := spec_l2Rest.E) (tysOk _ _) (eqsOk _) trivial Try.func270 rfl (by kernel_rfl) (spec_l2Rest.loops k) (spec_l2Rest.den k)
def spec_PrefixFault.sg : Sig := ⟨[.b kPrefix], [((.int .i64), .rd)]⟩
def spec_PrefixFault.E : Env := ⟨tys, bys, [(121, ⟨spec_l1In.sg, spec_l1In.F⟩), (122, ⟨spec_l2Addr.sg, spec_l2Addr.F⟩), (270, ⟨spec_l2Rest.sg, spec_l2Rest.F⟩)], eqs⟩
def spec_PrefixFault.F (k : Nat) (x : ((Int × (Int × Unit)) × Unit)) : Option ((Int × Unit) × Unit) :=
  (spec_l2Addr.F k (x.1.1, ())).bind fun y0 =>
  bif (!y0.1.1) then
  (some (((3 : Int), ()), ()))
  else (spec_l1In.F k (x.1.2.1, (0 : Int), (16 : Int), ())).bind fun y1 =>
    bif (!y1.1.1) then
    (some (((3 : Int), ()), ()))
    else (spec_l2Rest.F k x.1.2).bind fun y2 =>
      bif ((Go.Dn.andV .i64 x.1.1 y2.1.1) != (0 : Int)) then
      (some (((1 : Int), ()), ()))
      else some (((0 : Int), ()), ())
def spec_PrefixFault.hd : Hints := ⟨[], [], [2], [0, 1], [(3, [0, 1, 0, 4, 12, 31, 63])]⟩
def spec_PrefixFault.lps (k : Nat) : List (Nat × Lp spec_PrefixFault.sg.Out) := []
theorem spec_PrefixFault.loops (k : Nat) : LoopsOk spec_PrefixFault.E k spec_PrefixFault.hd (spec_PrefixFault.lps k) (loopsOf (Go.Proofs.Try.f186.body.getD .skip)) := trivial
theorem spec_PrefixFault.den (k : Nat) (x : Sig.In spec_PrefixFault.sg.ps) : denFn spec_PrefixFault.E k Go.Proofs.Try.f186 spec_PrefixFault.sg spec_PrefixFault.hd (runL k spec_PrefixFault.hd (spec_PrefixFault.lps k)) x = spec_PrefixFault.F k x := by kernel_rfl
theorem spec_PrefixFault.ok (k : Nat) : Contract Try.prog 186 spec_PrefixFault.sg (spec_PrefixFault.F k) := ok_of (E := spec_PrefixFault.E) (tysOk _ _) (eqsOk _) ⟨spec_l1In.ok k, spec_l2Addr.ok k, spec_l2Rest.ok k, trivial⟩ Try.func186 rfl (by kernel_rfl) (spec_PrefixFault.loops k) (spec_PrefixFault.den k)
def spec_l3Word.sg : Sig := ⟨[.b (.int .i64)], [(.bool, .rd)]⟩
def spec_l3Word.E : Env := ⟨tys, bys, [(121, ⟨spec_l1In.sg, spec_l1In.F⟩)], eqs⟩
def spec_l3Word.F (k : Nat) (x : (Int × Unit)) : Option ((Bool × Unit) × Unit) :=
  (spec_l1In.F k (x.1, (0 : Int), (65535 : Int), ())).bind fun y0 =>
  some y0
def spec_l3Word.hd : Hints := ⟨[], [], [2], [0], []⟩
def spec_l3Word.lps (k : Nat) : List (Nat × Lp spec_l3Word.sg.Out) := []
theorem spec_l3Word.loops (k : Nat) : LoopsOk spec_l3Word.E k spec_l3Word.hd (spec_l3Word.lps k) (loopsOf (Go.Proofs.Try.f273.body.getD .skip)) := trivial
theorem spec_l3Word.den (k : Nat) (x : Sig.In spec_l3Word.sg.ps) : denFn spec_l3Word.E k Go.Proofs.Try.f273 spec_l3Word.sg spec_l3Word.hd (runL k spec_l3Word.hd (spec_l3Word.lps k)) x = spec_l3Word.F k x := by kernel_rfl
theorem spec_l3Word.ok (k : Nat) : Contract Try.prog 273 spec_l3Word.sg (spec_l3Word.F k) := ok_of (E := spec_l3Word.E) (tysOk _ _) (eqsOk _) ⟨spec_l1In.ok k, trivial⟩ Try.func273 rfl (by kernel_rfl) (spec_l3Word.loops k) (spec_l3Word.den k)
def spec_AttrsFault.sg : Sig := ⟨[.b kAttrs], [((.int .i64), .rd)]⟩
def spec_AttrsFault.E : Env := ⟨tys, bys, [(121, ⟨spec_l1In.sg, spec_l1In.F⟩), (273, ⟨spec_l3Word.sg, spec_l3Word.F⟩)], eqs⟩
def spec_AttrsFault.l6 {ρ : Type} (k : Nat) (c0 : (Int × Unit) → Option ρ) (c1 : Unit → Option ρ) : Nat → Int → Int → List Int → Int → Int → Int → Option ρ
  | 0 => fun _ _ _ _ _ _ => none
  | n + 1 => fun x0 x1 x2 x3 x4 x5 => 
    bif (decide ((x0 < (((List.length x2) : Nat) : Int)))) then
    (bif (Go.Dn.inB x0 (((List.length x2) : Nat) : Int)) then
      (Go.Dn.share (List.getD x2 (Int.toNat x0) (0 : Int)) fun s4 =>
        (spec_l1In.F k (s4, (1 : Int), (65535 : Int), ())).bind fun y5 =>
        bif (!y5.1.1) then
        (c0 ((3 : Int), ()))
        else spec_AttrsFault.l6 k c0 c1 n (IntKind.wrap .i64 (x0 + (1 : Int))) x1 x2 x3 x4 x5)
      else none)
    else c1 (())
def spec_AttrsFault.F (k : Nat) (x : ((Int × ((List Int) × (Int × (Int × (Int × Unit))))) × Unit)) : Option ((Int × Unit) × Unit) :=
  (spec_l1In.F k (x.1.1, (0 : Int), (2 : Int), ())).bind fun y0 =>
  bif (!y0.1.1) then
  (some (((3 : Int), ()), ()))
  else (spec_l3Word.F k (x.1.2.2.1, ())).bind fun y1 =>
    bif (!y1.1.1) then
    (some (((3 : Int), ()), ()))
    else (spec_l3Word.F k (x.1.2.2.2.1, ())).bind fun y2 =>
      bif (!y2.1.1) then
      (some (((3 : Int), ()), ()))
      else (spec_l3Word.F k x.1.2.2.2.2).bind fun y3 =>
        bif (!y3.1.1) then
        (some (((3 : Int), ()), ()))
        else bif (decide (((((List.length x.1.2.1) : Nat) : Int) > (6 : Int)))) then
          (some (((2 : Int), ()), ()))
          else spec_AttrsFault.l6 k (fun e6 =>
              some (e6, ())) (fun e7 =>
              some (((0 : Int), ()), ())) k (0 : Int) x.1.1 x.1.2.1 x.1.2.2.1 x.1.2.2.2.1 x.1.2.2.2.2.1
def spec_AttrsFault.hd : Hints := ⟨[(6, ⟨[1, 3], []⟩)], [(0, []), (1, [1, 3])], [2], [0, 1, 3], []⟩
def spec_AttrsFault.lps (k : Nat) : List (Nat × Lp spec_AttrsFault.sg.Out) := [(6, ⟨[.i, .i, .l (.int .i64), .i, .i, .i], fun x => (fun x0 x1 x2 x3 x4 x5 => ⟨[(1, .v false [.box 0 0]), (3, .v false [.int .i64 x0])], [(0, .box [.int .i64 x1, .fz (.int .i64) x2, .int .i64 x3, .int .i64 x4, .int .i64 x5])], []⟩) x.1 x.2.1 x.2.2.1 x.2.2.2.1 x.2.2.2.2.1 x.2.2.2.2.2.1, fun C n x => spec_AttrsFault.l6 k (fun y => C .ret ((fun y0 => ⟨[(2, .v false [.int .i64 y0])], [], []⟩) y.1)) (fun _ => C (.exit 0) ⟨[], [], []⟩) n x.1 x.2.1 x.2.2.1 x.2.2.2.1 x.2.2.2.2.1 x.2.2.2.2.2.1⟩)]
theorem spec_AttrsFault.loops (k : Nat) : LoopsOk spec_AttrsFault.E k spec_AttrsFault.hd (spec_AttrsFault.lps k) (loopsOf (Go.Proofs.Try.f187.body.getD .skip)) := ⟨⟨fun _ _ => rfl, fun _ _ _ => by kernel_rfl, fun _ => ⟨rfl, rfl⟩⟩, trivial⟩
theorem spec_AttrsFault.den (k : Nat) (x : Sig.In spec_AttrsFault.sg.ps) : denFn spec_AttrsFault.E k Go.Proofs.Try.f187 spec_AttrsFault.sg spec_AttrsFault.hd (runL k spec_AttrsFault.hd (spec_AttrsFault.lps k)) x = spec_AttrsFault.F k x := by kernel_rfl
theorem spec_AttrsFault.ok (k : Nat) : Contract Try.prog 187 spec_AttrsFault.sg (spec_AttrsFault.F k) := ok_of (E := spec_AttrsFault.E) (tysOk _ _) (eqsOk _) ⟨spec_l1In.ok k, spec_l3Word.ok k, trivial⟩ Try.func187 rfl (by kernel_rfl) (spec_AttrsFault.loops k) (spec_AttrsFault.den k)
def spec_l2Ahead.sg : Sig := ⟨[.b kPrefix, .b kPrefix], [(.bool, .rd)]⟩
def spec_l2Ahead.E : Env := ⟨tys, bys, [], eqs⟩
def spec_l2Ahead.F (k : Nat) (x : ((Int × (Int × Unit)) × ((Int × (Int × Unit)) × Unit))) : Option ((Bool × Unit) × Unit) :=
  bif (x.1.1 != x.2.1.1) then
  (some (((decide ((x.1.1 < x.2.1.1))), ()), ()))
  else some (((decide ((x.1.2.1 < x.2.1.2.1))), ()), ())
def spec_l2Ahead.hd : Hints := ⟨[], [], [4], [0, 1, 2, 3], []⟩
def spec_l2Ahead.lps (k : Nat) : List (Nat × Lp spec_l2Ahead.sg.Out) := []
theorem spec_l2Ahead.loops (k : Nat) : LoopsOk spec_l2Ahead.E k spec_l2Ahead.hd (spec_l2Ahead.lps k) (loopsOf (Go.Proofs.Try.f188.body.getD .skip)) := trivial
theorem spec_l2Ahead.den (k : Nat) (x : Sig.In spec_l2Ahead.sg.ps) : denFn spec_l2Ahead.E k Go.Proofs.Try.f188 spec_l2Ahead.sg spec_l2Ahead.hd (runL k spec_l2Ahead.hd (spec_l2Ahead.lps k)) x = spec_l2Ahead.F k x := by kernel_rfl
theorem spec_l2Ahead.ok (k : Nat) : Contract Try.prog 188 spec_l2Ahead.sg (spec_l2Ahead.F k) := ok_of (E := spec_l2Ahead.E) (tysOk _ _) (eqsOk _) trivial Try.func188 rfl (by kernel_rfl) (spec_l2Ahead.loops k) (spec_l2Ahead.den k)
def spec_l6Copy.sg : Sig := ⟨[.b kAttrs], [(kAttrs, .fl)]⟩
def spec_l6Copy.E : Env := ⟨tys, bys, [], eqs⟩
def spec_l6Copy.F (k : Nat) (x : ((Int × ((List Int) × (Int × (Int × (Int × Unit))))) × Unit)) : Option (((Int × ((List Int) × (Int × (Int × (Int × Unit))))) × Unit) × Unit) :=
  bif (Go.Dn.roomy ((List.length ([] : List Int)) + (List.length x.1.2.1)) 8) then
  (Go.Dn.share (([] : List Int) ++ x.1.2.1) fun s0 =>
    some (((x.1.1, s0, x.1.2.2), ()), ()))
  else none
def spec_l6Copy.hd : Hints := ⟨[], [], [2], [0, 1, 2], []⟩
def spec_l6Copy.lps (k : Nat) : List (Nat × Lp spec_l6Copy.sg.Out) := []
theorem spec_l6Copy.loops (k : Nat) : LoopsOk spec_l6Copy.E k spec_l6Copy.hd (spec_l6Copy.lps k) (loopsOf (Go.Proofs.Try.f191.body.getD .skip)) := trivial
theorem spec_l6Copy.den (k : Nat) (x : Sig.In spec_l6Copy.sg.ps) : denFn spec_l6Copy.E k Go.Proofs.Try.f191 spec_l6Copy.sg spec_l6Copy.hd (runL k spec_l6Copy.hd (spec_l6Copy.lps k)) x = spec_l6Copy.F k x := by kernel_rfl
theorem spec_l6Copy.ok (k : Nat) : Contract Try.prog 191 spec_l6Copy.sg (spec_l6Copy.F k) := ok_of (E := spec_l6Copy.E) (tysOk _ _) (eqsOk _) trivial Try.func191 rfl (by kernel_rfl) (spec_l6Copy.loops k) (spec_l6Copy.den k)
def impl_in.sg : Sig := ⟨[.b (.int .i64), .b (.int .i64), .b (.int .i64)], [(.bool, .rd)]⟩
def impl_in.E : Env := ⟨tys, bys, [], eqs⟩
def impl_in.F (k : Nat) (x : (Int × (Int × (Int × Unit)))) : Option ((Bool × Unit) × Unit) :=
  bif (decide ((x.1 ≥ x.2.1))) then
  (some (((decide ((x.1 ≤ x.2.2.1))), ()), ()))
  else some ((false, ()), ())
def impl_in.hd : Hints := ⟨[], [], [6], [0, 1, 2], []⟩
def impl_in.lps (k : Nat) : List (Nat × Lp impl_in.sg.Out) := []
theorem impl_in.loops (k : Nat) : LoopsOk impl_in.E k impl_in.hd (impl_in.lps k) (loopsOf (Go.Proofs.Try.f102.body.getD .skip)) := trivial
theorem impl_in.den (k : Nat) (x : Sig.In impl_in.sg.ps) : denFn impl_in.E k Go.Proofs.Try.f102 impl_in.sg impl_in.hd (runL k impl_in.hd (impl_in.lps k)) x = impl_in.F k x := by kernel_rfl
theorem impl_in.ok (k : Nat) : Contract Try.prog 102 impl_in.sg (impl_in.F k) := ok_of (E := impl_in.E) (tysOk _ _) (eqsOk _) trivial Try.func102 rfl (by kernel_rfl) (impl_in.loops k) (impl_in.den k)
def impl_isAddr.sg : Sig := ⟨[.b (.int .i64)], [(.bool, .rd)]⟩
def impl_isAddr.E : Env := ⟨tys, bys, [(102, ⟨impl_in.sg, impl_in.F⟩)], eqs⟩
def impl_isAddr.F (k : Nat) (x : (Int × Unit)) : Option ((Bool × Unit) × Unit) :=
  (impl_in.F k (x.1, (0 : Int), (65535 : Int), ())).bind fun y0 =>
  some y0
def impl_isAddr.hd : Hints := ⟨[], [], [2], [0], []⟩
def impl_isAddr.lps (k : Nat) : List (Nat × Lp impl_isAddr.sg.Out) := []
theorem impl_isAddr.loops (k : Nat) : LoopsOk impl_isAddr.E k impl_isAddr.hd (impl_isAddr.lps k) (loopsOf (Go.Proofs.Try.f116.body.getD .skip)) := trivial
theorem impl_isAddr.den (k : Nat) (x : Sig.In impl_isAddr.sg.ps) : denFn impl_isAddr.E k Go.Proofs.Try.f116 impl_isAddr.sg impl_isAddr.hd (runL k impl_isAddr.hd (impl_isAddr.lps k)) x = impl_isAddr.F k x := by kernel_rfl
theorem impl_isAddr.ok (k : Nat) : Contract Try.prog 116 impl_isAddr.sg (impl_isAddr.F k) := ok_of (E := impl_isAddr.E) (tysOk _ _) (eqsOk _) ⟨impl_in.ok k, trivial⟩ Try.func116 rfl (by kernel_rfl) (impl_isAddr.loops k) (impl_isAddr.den k)
def impl_isTwo.sg : Sig := ⟨[.b (.int .i64)], [(.bool, .rd)]⟩
def impl_isTwo.E : Env := ⟨tys, bys, [(102, ⟨impl_in.sg, impl_in.F⟩)], eqs⟩
def impl_isTwo.F (k : Nat) (x : (Int × Unit)) : Option ((Bool × Unit) × Unit) :=
  (impl_in.F k (x.1, (0 : Int), (65535 : Int), ())).bind fun y0 =>
  some y0
def impl_isTwo.hd : Hints := ⟨[], [], [2], [0], []⟩
def impl_isTwo.lps (k : Nat) : List (Nat × Lp impl_isTwo.sg.Out) := []
theorem impl_isTwo.loops (k : Nat) : LoopsOk impl_isTwo.E k impl_isTwo.hd (impl_isTwo.lps k) (loopsOf (Go.Proofs.Try.f193.body.getD .skip)) := trivial
theorem impl_isTwo.den (k : Nat) (x : Sig.In impl_isTwo.sg.ps) : denFn impl_isTwo.E k Go.Proofs.Try.f193 impl_isTwo.sg impl_isTwo.hd (runL k impl_isTwo.hd (impl_isTwo.lps k)) x = impl_isTwo.F k x := by kernel_rfl
theorem impl_isTwo.ok (k : Nat) : Contract Try.prog 193 impl_isTwo.sg (impl_isTwo.F k) := ok_of (E := impl_isTwo.E) (tysOk _ _) (eqsOk _) ⟨impl_in.ok k, trivial⟩ Try.func193 rfl (by kernel_rfl) (impl_isTwo.loops k) (impl_isTwo.den k)
def slices_IndexFunc_int64_int64.sg : Sig := ⟨[.b (.sl (.int .i64)), .f (.pair (.int .i64) .unit) .bool], [((.int .i64), .rd)]⟩
def slices_IndexFunc_int64_int64.E : Env := ⟨tys, bys, [], eqs⟩
def slices_IndexFunc_int64_int64.l2 {ρ : Type} (k : Nat) (c0 : (Int × Unit) → Option ρ) (c1 : Unit → Option ρ) : Nat → List Int → ((Int × Unit) → Option Bool) → Int → Int → Option ρ
  | 0 => fun _ _ _ _ => none
  | n + 1 => fun x0 x1 x2 x3 => 
    bif (decide ((x3 < x2))) then
    (bif (Go.Dn.inB x3 (((List.length x0) : Nat) : Int)) then
      (Go.Dn.share (List.getD x0 (Int.toNat x3) (0 : Int)) fun s0 =>
        (x1 (s0, ())).bind fun y1 =>
        bif y1 then
        (c0 (x3, ()))
        else slices_IndexFunc_int64_int64.l2 k c0 c1 n x0 x1 x2 (IntKind.wrap .i64 (x3 + (1 : Int))))
      else none)
    else c1 (())
def slices_IndexFunc_int64_int64.F (k : Nat) (x : ((List Int) × (((Int × Unit) → Option Bool) × Unit))) : Option ((Int × Unit) × Unit) :=
  slices_IndexFunc_int64_int64.l2 k (fun e2 =>
    some (e2, ())) (fun e3 =>
    some (((-(1 : Int)), ()), ())) k x.1 x.2.1 (((List.length x.1) : Nat) : Int) (0 : Int)
def slices_IndexFunc_int64_int64.hd : Hints := ⟨[(2, ⟨[0, 1, 7, 8], []⟩)], [(0, []), (1, [0, 1, 7, 8])], [4], [0, 1, 5, 7, 8], []⟩
def slices_IndexFunc_int64_int64.lps (k : Nat) : List (Nat × Lp slices_IndexFunc_int64_int64.sg.Out) := [(2, ⟨[.l (.int .i64), .f (.pair (.int .i64) .unit) .bool, .i, .i], fun x => (fun x0 x1 x2 x3 => ⟨[(0, .v false [.fz (.int .i64) x0]), (1, .v false [.fnv (.pair (.int .i64) .unit) .bool x1]), (7, .v false [.int .i64 x2]), (8, .v false [.int .i64 x3])], [], []⟩) x.1 x.2.1 x.2.2.1 x.2.2.2.1, fun C n x => slices_IndexFunc_int64_int64.l2 k (fun y => C .ret ((fun y0 => ⟨[(4, .v false [.int .i64 y0])], [], []⟩) y.1)) (fun _ => C (.exit 0) ⟨[], [], []⟩) n x.1 x.2.1 x.2.2.1 x.2.2.2.1⟩)]
theorem slices_IndexFunc_int64_int64.loops (k : Nat) : LoopsOk slices_IndexFunc_int64_int64.E k slices_IndexFunc_int64_int64.hd (slices_IndexFunc_int64_int64.lps k) (loopsOf (Go.Proofs.Try.f274.body.getD .skip)) := ⟨⟨fun _ _ => rfl, fun _ _ _ => by kernel_rfl, fun _ => ⟨rfl, rfl⟩⟩, trivial⟩
theorem slices_IndexFunc_int64_int64.den (k : Nat) (x : Sig.In slices_IndexFunc_int64_int64.sg.ps) : denFn slices_IndexFunc_int64_int64.E k Go.Proofs.Try.f274 slices_IndexFunc_int64_int64.sg slices_IndexFunc_int64_int64.hd (runL k slices_IndexFunc_int64_int64.hd (slices_IndexFunc_int64_int64.lps k)) x = slices_IndexFunc_int64_int64.F k x := by kernel_rfl
theorem slices_IndexFunc_int64_int64.ok (k : Nat) : Contract Try.prog 274 slices_IndexFunc_int64_int64.sg (slices_IndexFunc_int64_int64.F k) := ok_of (E := slices_IndexFunc_int64_int64.E) (tysOk _ _) (eqsOk _) trivial Try.func274 rfl (by kernel_rfl) (slices_IndexFunc_int64_int64.loops k) (slices_IndexFunc_int64_int64.den k)
def slices_ContainsFunc_int64_int64.sg : Sig := ⟨[.b (.sl (.int .i64)), .f (.pair (.int .i64) .unit) .bool], [(.bool, .rd)]⟩
def slices_ContainsFunc_int64_int64.E : Env := ⟨tys, bys, [(274, ⟨slices_IndexFunc_int64_int64.sg, slices_IndexFunc_int64_int64.F⟩)], eqs⟩
def slices_ContainsFunc_int64_int64.F (k : Nat) (x : ((List Int) × (((Int × Unit) → Option Bool) × Unit))) : Option ((Bool × Unit) × Unit) :=
  (slices_IndexFunc_int64_int64.F k x).bind fun y0 =>
  some (((decide ((y0.1.1 ≥ (0 : Int)))), ()), ())
def slices_ContainsFunc_int64_int64.hd : Hints := ⟨[], [], [4], [0, 1], []⟩
def slices_ContainsFunc_int64_int64.lps (k : Nat) : List (Nat × Lp slices_ContainsFunc_int64_int64.sg.Out) := []
theorem slices_ContainsFunc_int64_int64.loops (k : Nat) : LoopsOk slices_ContainsFunc_int64_int64.E k slices_ContainsFunc_int64_int64.hd (slices_ContainsFunc_int64_int64.lps k) (loopsOf (Go.Proofs.Try.f194.body.getD .skip)) := trivial
theorem slices_ContainsFunc_int64_int64.den (k : Nat) (x : Sig.In slices_ContainsFunc_int64_int64.sg.ps) : denFn slices_ContainsFunc_int64_int64.E k Go.Proofs.Try.f194 slices_ContainsFunc_int64_int64.sg slices_ContainsFunc_int64_int64.hd (runL k slices_ContainsFunc_int64_int64.hd (slices_ContainsFunc_int64_int64.lps k)) x = slices_ContainsFunc_int64_int64.F k x := by kernel_rfl
theorem slices_ContainsFunc_int64_int64.ok (k : Nat) : Contract Try.prog 194 slices_ContainsFunc_int64_int64.sg (slices_ContainsFunc_int64_int64.F k) := ok_of (E := slices_ContainsFunc_int64_int64.E) (tysOk _ _) (eqsOk _) ⟨slices_IndexFunc_int64_int64.ok k, trivial⟩ Try.func194 rfl (by kernel_rfl) (slices_ContainsFunc_int64_int64.loops k) (slices_ContainsFunc_int64_int64.den k)
def impl_isSystem.sg : Sig := ⟨[.b (.int .i64)], [(.bool, .rd)]⟩
def impl_isSystem.E : Env := ⟨tys, bys, [(102, ⟨impl_in.sg, impl_in.F⟩)], eqs⟩
def impl_isSystem.F (k : Nat) (x : (Int × Unit)) : Option ((Bool × Unit) × Unit) :=
  (impl_in.F k (x.1, (1 : Int), (65535 : Int), ())).bind fun y0 =>
  some y0
def impl_isSystem.hd : Hints := ⟨[], [], [2], [0], []⟩
def impl_isSystem.lps (k : Nat) : List (Nat × Lp impl_isSystem.sg.Out) := []
theorem impl_isSystem.loops (k : Nat) : LoopsOk impl_isSystem.E k impl_isSystem.hd (impl_isSystem.lps k) (loopsOf (Go.Proofs.Try.f115.body.getD .skip)) := trivial
theorem impl_isSystem.den (k : Nat) (x : Sig.In impl_isSystem.sg.ps) : denFn impl_isSystem.E k Go.Proofs.Try.f115 impl_isSystem.sg impl_isSystem.hd (runL k impl_isSystem.hd (impl_isSystem.lps k)) x = impl_isSystem.F k x := by kernel_rfl
theorem impl_isSystem.ok (k : Nat) : Contract Try.prog 115 impl_isSystem.sg (impl_isSystem.F k) := ok_of (E := impl_isSystem.E) (tysOk _ _) (eqsOk _) ⟨impl_in.ok k, trivial⟩ Try.func115 rfl (by kernel_rfl) (impl_isSystem.loops k) (impl_isSystem.den k)
def impl_AttrsFault_1.sg : Sig := ⟨[.b (.int .i64)], [(.bool, .rd)]⟩
def impl_AttrsFault_1.E : Env := ⟨tys, bys, [(115, ⟨impl_isSystem.sg, impl_isSystem.F⟩)], eqs⟩
def impl_AttrsFault_1.F (k : Nat) (x : (Int × Unit)) : Option ((Bool × Unit) × Unit) :=
  (impl_isSystem.F k x).bind fun y0 =>
  some (((!y0.1.1), ()), ())
def impl_AttrsFault_1.hd : Hints := ⟨[], [], [2], [0], []⟩
def impl_AttrsFault_1.lps (k : Nat) : List (Nat × Lp impl_AttrsFault_1.sg.Out) := []
theorem impl_AttrsFault_1.loops (k : Nat) : LoopsOk impl_AttrsFault_1.E k impl_AttrsFault_1.hd (impl_AttrsFault_1.lps k) (loopsOf (Go.Proofs.Try.f195.body.getD .skip)) := trivial
theorem impl_AttrsFault_1.den (k : Nat) (x : Sig.In impl_AttrsFault_1.sg.ps) : denFn impl_AttrsFault_1.E k Go.Proofs.Try.f195 impl_AttrsFault_1.sg impl_AttrsFault_1.hd (runL k impl_AttrsFault_1.hd (impl_AttrsFault_1.lps k)) x = impl_AttrsFault_1.F k x := by kernel_rfl
theorem impl_AttrsFault_1.ok (k : Nat) : Contract Try.prog 195 impl_AttrsFault_1.sg (impl_AttrsFault_1.F k) := ok_of (E := impl_AttrsFault_1.E) (tysOk _ _) (eqsOk _) ⟨impl_isSystem.ok k, trivial⟩ Try.func195 rfl (by kernel_rfl) (impl_AttrsFault_1.loops k) (impl_AttrsFault_1.den k)
def impl_AttrsFault.sg : Sig := ⟨[.b kAttrs], [((.int .i64), .rd)]⟩
def impl_AttrsFault.E : Env := ⟨tys, bys, [(102, ⟨impl_in.sg, impl_in.F⟩), (116, ⟨impl_isAddr.sg, impl_isAddr.F⟩), (193, ⟨impl_isTwo.sg, impl_isTwo.F⟩), (194, ⟨slices_ContainsFunc_int64_int64.sg, slices_ContainsFunc_int64_int64.F⟩), (195, ⟨impl_AttrsFault_1.sg, impl_AttrsFault_1.F⟩)], eqs⟩
def impl_AttrsFault.F (k : Nat) (x : ((Int × ((List Int) × (Int × (Int × (Int × Unit))))) × Unit)) : Option ((Int × Unit) × Unit) :=
  (impl_in.F k (x.1.1, (0 : Int), (2 : Int), ())).bind fun y0 =>
  bif (!y0.1.1) then
  (some (((3 : Int), ()), ()))
  else (impl_isAddr.F k (x.1.2.2.1, ())).bind fun y1 =>
    bif (!y1.1.1) then
    (some (((3 : Int), ()), ()))
    else (impl_isTwo.F k (x.1.2.2.2.1, ())).bind fun y2 =>
      bif (!y2.1.1) then
      (some (((3 : Int), ()), ()))
      else (impl_isTwo.F k x.1.2.2.2.2).bind fun y3 =>
        bif (!y3.1.1) then
        (some (((3 : Int), ()), ()))
        else bif (decide (((((List.length x.1.2.1) : Nat) : Int) > (6 : Int)))) then
          (some (((2 : Int), ()), ()))
          else (slices_ContainsFunc_int64_int64.F k (x.1.2.1, (fun x => (Option.bind (impl_AttrsFault_1.F k x) (fun y => (Option.some y.1.1)))), ())).bind fun y4 =>
            bif y4.1.1 then
            (some (((3 : Int), ()), ()))
            else some (((0 : Int), ()), ())
def impl_AttrsFault.hd : Hints := ⟨[], [(0, [])], [2], [0, 1], []⟩
def impl_AttrsFault.lps (k : Nat) : List (Nat × Lp impl_AttrsFault.sg.Out) := []
theorem impl_AttrsFault.loops (k : Nat) : LoopsOk impl_AttrsFault.E k impl_AttrsFault.hd (impl_AttrsFault.lps k) (loopsOf (Go.Proofs.Try.f82.body.getD .skip)) := trivial
theorem impl_AttrsFault.den (k : Nat) (x : Sig.In impl_AttrsFault.sg.ps) : denFn impl_AttrsFault.E k Go.Proofs.Try.f82 impl_AttrsFault.sg impl_AttrsFault.hd (runL k impl_AttrsFault.hd (impl_AttrsFault.lps k)) x = impl_AttrsFault.F k x := by kernel_rfl
theorem impl_AttrsFault.ok (k : Nat) : Contract Try.prog 82 impl_AttrsFault.sg (impl_AttrsFault.F k) := ok_of (E := impl_AttrsFault.E) (tysOk _ _) (eqsOk _) ⟨impl_in.ok k, impl_isAddr.ok k, impl_isTwo.ok k, slices_ContainsFunc_int64_int64.ok k, impl_AttrsFault_1.ok k, trivial⟩ Try.func82 rfl (by kernel_rfl) (impl_AttrsFault.loops k) (impl_AttrsFault.den k)
def impl_PrefixFault.sg : Sig := ⟨[.b kPrefix], [((.int .i64), .rd)]⟩
def impl_PrefixFault.E : Env := ⟨tys, bys, [(102, ⟨impl_in.sg, impl_in.F⟩), (116, ⟨impl_isAddr.sg, impl_isAddr.F⟩)], eqs⟩
def impl_PrefixFault.F (k : Nat) (x : ((Int × (Int × Unit)) × Unit)) : Option ((Int × Unit) × Unit) :=
  (impl_isAddr.F k (x.1.1, ())).bind fun y0 =>
  bif (!y0.1.1) then
  (some (((3 : Int), ()), ()))
  else (impl_in.F k (x.1.2.1, (0 : Int), (16 : Int), ())).bind fun y1 =>
    bif (!y1.1.1) then
    (some (((3 : Int), ()), ()))
    else bif (decide (((IntKind.wrap .i64 ((16 : Int) - x.1.2.1)) < (0 : Int)))) then
      (none)
      else bif ((Go.Dn.andV .i64 x.1.1 (IntKind.wrap .i64 ((Go.Dn.shlV .i64 (1 : Int) (IntKind.wrap .i64 ((16 : Int) - x.1.2.1))) - (1 : Int)))) != (0 : Int)) then
        (some (((1 : Int), ()), ()))
        else some (((0 : Int), ()), ())
def impl_PrefixFault.hd : Hints := ⟨[], [(0, [])], [2], [0, 1], [(3, [0, 1, 0, 4, 12, 28, 60, 127, 255, 511])]⟩
def impl_PrefixFault.lps (k : Nat) : List (Nat × Lp impl_PrefixFault.sg.Out) := []
theorem impl_PrefixFault.loops (k : Nat) : LoopsOk impl_PrefixFault.E k impl_PrefixFault.hd (impl_PrefixFault.lps k) (loopsOf (Go.Proofs.Try.f89.body.getD .skip)) := trivial
theorem impl_PrefixFault.den (k : Nat) (x : Sig.In impl_PrefixFault.sg.ps) : denFn impl_PrefixFault.E k Go.Proofs.Try.f89 impl_PrefixFault.sg impl_PrefixFault.hd (runL k impl_PrefixFault.hd (impl_PrefixFault.lps k)) x = impl_PrefixFault.F k x := by kernel_rfl
theorem impl_PrefixFault.ok (k : Nat) : Contract Try.prog 89 impl_PrefixFault.sg (impl_PrefixFault.F k) := ok_of (E := impl_PrefixFault.E) (tysOk _ _) (eqsOk _) ⟨impl_in.ok k, impl_isAddr.ok k, trivial⟩ Try.func89 rfl (by kernel_rfl) (impl_PrefixFault.loops k) (impl_PrefixFault.den k)
def cmp_Or_int.sg : Sig := ⟨[.b (.sl (.int .i64))], [((.int .i64), .rd)]⟩
def cmp_Or_int.E : Env := ⟨tys, bys, [], eqs⟩
def cmp_Or_int.l3 {ρ : Type} (k : Nat) (c0 : (Int × Unit) → Option ρ) (c1 : (Int × Unit) → Option ρ) : Nat → Int → List Int → Int → Int → Option ρ
  | 0 => fun _ _ _ _ => none
  | n + 1 => fun x0 x1 x2 x3 => 
    bif (decide ((x3 < x2))) then
    (bif (Go.Dn.inB x3 (((List.length x1) : Nat) : Int)) then
      (Go.Dn.share (List.getD x1 (Int.toNat x3) (0 : Int)) fun s0 =>
        bif (s0 != x0) then
        (c0 (s0, ()))
        else cmp_Or_int.l3 k c0 c1 n x0 x1 x2 (IntKind.wrap .i64 (x3 + (1 : Int))))
      else none)
    else c1 (x0, ())
def cmp_Or_int.F (k : Nat) (x : ((List Int) × Unit)) : Option ((Int × Unit) × Unit) :=
  cmp_Or_int.l3 k (fun e1 =>
    some (e1, ())) (fun e2 =>
    some (e2, ())) k (0 : Int) x.1 (((List.length x.1) : Nat) : Int) (0 : Int)
def cmp_Or_int.hd : Hints := ⟨[(3, ⟨[3, 6, 7, 8], []⟩)], [(0, [3]), (1, [3, 6, 7, 8])], [2], [0, 3, 5, 6, 7, 8], []⟩
def cmp_Or_int.lps (k : Nat) : List (Nat × Lp cmp_Or_int.sg.Out) := [(3, ⟨[.i, .l (.int .i64), .i, .i], fun x => (fun x0 x1 x2 x3 => ⟨[(3, .v false [.int .i64 x0]), (6, .v false [.fz (.int .i64) x1]), (7, .v false [.int .i64 x2]), (8, .v false [.int .i64 x3])], [], []⟩) x.1 x.2.1 x.2.2.1 x.2.2.2.1, fun C n x => cmp_Or_int.l3 k (fun y => C .ret ((fun y0 => ⟨[(2, .v false [.int .i64 y0])], [], []⟩) y.1)) (fun y => C (.exit 0) ((fun y0 => ⟨[(3, .v false [.int .i64 y0])], [], []⟩) y.1)) n x.1 x.2.1 x.2.2.1 x.2.2.2.1⟩)]
theorem cmp_Or_int.loops (k : Nat) : LoopsOk cmp_Or_int.E k cmp_Or_int.hd (cmp_Or_int.lps k) (loopsOf (Go.Proofs.Try.f204.body.getD .skip)) := ⟨⟨fun _ _ => rfl, fun _ _ _ => by kernel_rfl, fun _ => ⟨rfl, rfl⟩⟩, trivial⟩
theorem cmp_Or_int.den (k : Nat) (x : Sig.In cmp_Or_int.sg.ps) : denFn cmp_Or_int.E k Go.Proofs.Try.f204 cmp_Or_int.sg cmp_Or_int.hd (runL k cmp_Or_int.hd (cmp_Or_int.lps k)) x = cmp_Or_int.F k x := by kernel_rfl
theorem cmp_Or_int.ok (k : Nat) : Contract Try.prog 204 cmp_Or_int.sg (cmp_Or_int.F k) := ok_of (E := cmp_Or_int.E) (tysOk _ _) (eqsOk _) trivial Try.func204 rfl (by kernel_rfl) (cmp_Or_int.loops k) (cmp_Or_int.den k)
def cmp_isNaN_int64.sg : Sig := ⟨[.b (.int .i64)], [(.bool, .rd)]⟩
def cmp_isNaN_int64.E : Env := ⟨tys, bys, [], eqs⟩
def cmp_isNaN_int64.F (k : Nat) (x : (Int × Unit)) : Option ((Bool × Unit) × Unit) :=
  some (((x.1 != x.1), ()), ())
def cmp_isNaN_int64.hd : Hints := ⟨[], [], [2], [0], []⟩
def cmp_isNaN_int64.lps (k : Nat) : List (Nat × Lp cmp_isNaN_int64.sg.Out) := []
theorem cmp_isNaN_int64.loops (k : Nat) : LoopsOk cmp_isNaN_int64.E k cmp_isNaN_int64.hd (cmp_isNaN_int64.lps k) (loopsOf (Go.Proofs.Try.f276.body.getD .skip)) := trivial
theorem cmp_isNaN_int64.den (k : Nat) (x : Sig.In cmp_isNaN_int64.sg.ps) : denFn cmp_isNaN_int64.E k Go.Proofs.Try.f276 cmp_isNaN_int64.sg cmp_isNaN_int64.hd (runL k cmp_isNaN_int64.hd (cmp_isNaN_int64.lps k)) x = cmp_isNaN_int64.F k x := by kernel_rfl
theorem cmp_isNaN_int64.ok (k : Nat) : Contract Try.prog 276 cmp_isNaN_int64.sg (cmp_isNaN_int64.F k) := ok_of (E := cmp_isNaN_int64.E) (tysOk _ _) (eqsOk _) trivial Try.func276 rfl (by kernel_rfl) (cmp_isNaN_int64.loops k) (cmp_isNaN_int64.den k)
def cmp_Compare_int64.sg : Sig := ⟨[.b (.int .i64), .b (.int .i64)], [((.int .i64), .rd)]⟩
def cmp_Compare_int64.E : Env := ⟨tys, bys, [(276, ⟨cmp_isNaN_int64.sg, cmp_isNaN_int64.F⟩)], eqs⟩
def cmp_Compare_int64.F (k : Nat) (x : (Int × (Int × Unit))) : Option ((Int × Unit) × Unit) :=
  (cmp_isNaN_int64.F k (x.1, ())).bind fun y0 =>
  (cmp_isNaN_int64.F k x.2).bind fun y1 =>
  bif y0.1.1 then
  (bif y1.1.1 then
    (some (((0 : Int), ()), ()))
    else some (((-(1 : Int)), ()), ()))
  else bif y1.1.1 then
    (some (((1 : Int), ()), ()))
    else bif (decide ((x.1 < x.2.1))) then
      (some (((-(1 : Int)), ()), ()))
      else bif (decide ((x.1 > x.2.1))) then
        (some (((1 : Int), ()), ()))
        else some (((0 : Int), ()), ())
def cmp_Compare_int64.hd : Hints := ⟨[], [], [4], [0, 1, 5, 6], []⟩
def cmp_Compare_int64.lps (k : Nat) : List (Nat × Lp cmp_Compare_int64.sg.Out) := []
theorem cmp_Compare_int64.loops (k : Nat) : LoopsOk cmp_Compare_int64.E k cmp_Compare_int64.hd (cmp_Compare_int64.lps k) (loopsOf (Go.Proofs.Try.f205.body.getD .skip)) := trivial
theorem cmp_Compare_int64.den (k : Nat) (x : Sig.In cmp_Compare_int64.sg.ps) : denFn cmp_Compare_int64.E k Go.Proofs.Try.f205 cmp_Compare_int64.sg cmp_Compare_int64.hd (runL k cmp_Compare_int64.hd (cmp_Compare_int64.lps k)) x = cmp_Compare_int64.F k x := by kernel_rfl
theorem cmp_Compare_int64.ok (k : Nat) : Contract Try.prog 205 cmp_Compare_int64.sg (cmp_Compare_int64.F k) := ok_of (E := cmp_Compare_int64.E) (tysOk _ _) (eqsOk _) ⟨cmp_isNaN_int64.ok k, trivial⟩ Try.func205 rfl (by kernel_rfl) (cmp_Compare_int64.loops k) (cmp_Compare_int64.den k)
def impl_comparePrefix.sg : Sig := ⟨[.b kPrefix, .b kPrefix], [((.int .i64), .rd)]⟩
def impl_comparePrefix.E : Env := ⟨tys, bys, [(204, ⟨cmp_Or_int.sg, cmp_Or_int.F⟩), (205, ⟨cmp_Compare_int64.sg, cmp_Compare_int64.F⟩)], eqs⟩
def impl_comparePrefix.F (k : Nat) (x : ((Int × (Int × Unit)) × ((Int × (Int × Unit)) × Unit))) : Option ((Int × Unit) × Unit) :=
  (cmp_Compare_int64.F k (x.1.1, x.2.1.1, ())).bind fun y0 =>
  (cmp_Compare_int64.F k (x.1.2.1, x.2.1.2)).bind fun y1 =>
  (cmp_Or_int.F k ([y0.1.1, y1.1.1], ())).bind fun y2 =>
  some y2
def impl_comparePrefix.hd : Hints := ⟨[], [], [4], [0, 1, 2, 3], [(1, [0, 1, 0, 4, 15, 0, 32, 0, 128, 511, 1023, 2047, 4095])]⟩
def impl_comparePrefix.lps (k : Nat) : List (Nat × Lp impl_comparePrefix.sg.Out) := []
theorem impl_comparePrefix.loops (k : Nat) : LoopsOk impl_comparePrefix.E k impl_comparePrefix.hd (impl_comparePrefix.lps k) (loopsOf (Go.Proofs.Try.f90.body.getD .skip)) := trivial
theorem impl_comparePrefix.den (k : Nat) (x : Sig.In impl_comparePrefix.sg.ps) : denFn impl_comparePrefix.E k Go.Proofs.Try.f90 impl_comparePrefix.sg impl_comparePrefix.hd (runL k impl_comparePrefix.hd (impl_comparePrefix.lps k)) x = impl_comparePrefix.F k x := by kernel_rfl
theorem impl_comparePrefix.ok (k : Nat) : Contract Try.prog 90 impl_comparePrefix.sg (impl_comparePrefix.F k) := ok_of (E := impl_comparePrefix.E) (tysOk _ _) (eqsOk _) ⟨cmp_Or_int.ok k, cmp_Compare_int64.ok k, trivial⟩ Try.func90 rfl (by kernel_rfl) (impl_comparePrefix.loops k) (impl_comparePrefix.den k)
def slices_Clone_int64_int64.sg : Sig := ⟨[.b (.sl (.int .i64))], [((.sl (.int .i64)), .dp)]⟩
def slices_Clone_int64_int64.E : Env := ⟨tys, bys, [], eqs⟩
def slices_Clone_int64_int64.F (k : Nat) (x : ((List Int) × Unit)) : Option (((List Int) × Unit) × Unit) :=
  bif (Nat.beq (List.length x.1) 0) then
  (Go.Dn.agree
    (some ((([] : List Int), ()), ()))
    (bif (Go.Dn.roomy ((List.length ([] : List Int)) + (List.length x.1)) 8) then
      (Go.Dn.share (([] : List Int) ++ x.1) fun s0 =>
        some ((s0, ()), ()))
      else none))
  else bif (Go.Dn.roomy ((List.length ([] : List Int)) + (List.length x.1)) 8) then
    (Go.Dn.share (([] : List Int) ++ x.1) fun s1 =>
      some ((s1, ()), ()))
    else none
def slices_Clone_int64_int64.hd : Hints := ⟨[], [], [2], [0], []⟩
def slices_Clone_int64_int64.lps (k : Nat) : List (Nat × Lp slices_Clone_int64_int64.sg.Out) := []
theorem slices_Clone_int64_int64.loops (k : Nat) : LoopsOk slices_Clone_int64_int64.E k slices_Clone_int64_int64.hd (slices_Clone_int64_int64.lps k) (loopsOf (Go.Proofs.Try.f201.body.getD .skip)) := trivial
theorem slices_Clone_int64_int64.den (k : Nat) (x : Sig.In slices_Clone_int64_int64.sg.ps) : denFn slices_Clone_int64_int64.E k Go.Proofs.Try.f201 slices_Clone_int64_int64.sg slices_Clone_int64_int64.hd (runL k slices_Clone_int64_int64.hd (slices_Clone_int64_int64.lps k)) x = slices_Clone_int64_int64.F k x := by kernel_rfl
theorem slices_Clone_int64_int64.ok (k : Nat) : Contract Try.prog 201 slices_Clone_int64_int64.sg (slices_Clone_int64_int64.F k) := ok_of (E := slices_Clone_int64_int64.E) (tysOk _ _) (eqsOk _) trivial Try.func201 rfl (by kernel_rfl) (slices_Clone_int64_int64.loops k) (slices_Clone_int64_int64.den k)
def impl_Attrs_copied.sg : Sig := ⟨[.b kAttrs], [(kAttrs, .rd)]⟩
def impl_Attrs_copied.E : Env := ⟨tys, bys, [(201, ⟨slices_Clone_int64_int64.sg, slices_Clone_int64_int64.F⟩)], eqs⟩
def impl_Attrs_copied.F (k : Nat) (x : ((Int × ((List Int) × (Int × (Int × (Int × Unit))))) × Unit)) : Option (((Int × ((List Int) × (Int × (Int × (Int × Unit))))) × Unit) × Unit) :=
  (slices_Clone_int64_int64.F k (x.1.2.1, ())).bind fun y0 =>
  some (((x.1.1, y0.1.1, x.1.2.2), ()), ())
def impl_Attrs_copied.hd : Hints := ⟨[], [], [2], [0, 1, 2], []⟩
def impl_Attrs_copied.lps (k : Nat) : List (Nat × Lp impl_Attrs_copied.sg.Out) := []
theorem impl_Attrs_copied.loops (k : Nat) : LoopsOk impl_Attrs_copied.E k impl_Attrs_copied.hd (impl_Attrs_copied.lps k) (loopsOf (Go.Proofs.Try.f87.body.getD .skip)) := trivial
theorem impl_Attrs_copied.den (k : Nat) (x : Sig.In impl_Attrs_copied.sg.ps) : denFn impl_Attrs_copied.E k Go.Proofs.Try.f87 impl_Attrs_copied.sg impl_Attrs_copied.hd (runL k impl_Attrs_copied.hd (impl_Attrs_copied.lps k)) x = impl_Attrs_copied.F k x := by kernel_rfl
theorem impl_Attrs_copied.ok (k : Nat) : Contract Try.prog 87 impl_Attrs_copied.sg (impl_Attrs_copied.F k) := ok_of (E := impl_Attrs_copied.E) (tysOk _ _) (eqsOk _) ⟨slices_Clone_int64_int64.ok k, trivial⟩ Try.func87 rfl (by kernel_rfl) (impl_Attrs_copied.loops k) (impl_Attrs_copied.den k)
def spec_l7Peer.sg : Sig := ⟨[.b (.int .i64)], [(.bool, .rd)]⟩
def spec_l7Peer.E : Env := ⟨tys, bys, [(121, ⟨spec_l1In.sg, spec_l1In.F⟩)], eqs⟩
def spec_l7Peer.F (k : Nat) (x : (Int × Unit)) : Option ((Bool × Unit) × Unit) :=
  (spec_l1In.F k (x.1, (0 : Int), (2 : Int), ())).bind fun y0 =>
  some y0
def spec_l7Peer.hd : Hints := ⟨[], [], [2], [0], []⟩
def spec_l7Peer.lps (k : Nat) : List (Nat × Lp spec_l7Peer.sg.Out) := []
theorem spec_l7Peer.loops (k : Nat) : LoopsOk spec_l7Peer.E k spec_l7Peer.hd (spec_l7Peer.lps k) (loopsOf (Go.Proofs.Try.f119.body.getD .skip)) := trivial
theorem spec_l7Peer.den (k : Nat) (x : Sig.In spec_l7Peer.sg.ps) : denFn spec_l7Peer.E k Go.Proofs.Try.f119 spec_l7Peer.sg spec_l7Peer.hd (runL k spec_l7Peer.hd (spec_l7Peer.lps k)) x = spec_l7Peer.F k x := by kernel_rfl
theorem spec_l7Peer.ok (k : Nat) : Contract Try.prog 119 spec_l7Peer.sg (spec_l7Peer.F k) := ok_of (E := spec_l7Peer.E) (tysOk _ _) (eqsOk _) ⟨spec_l1In.ok k, trivial⟩ Try.func119 rfl (by kernel_rfl) (spec_l7Peer.loops k) (spec_l7Peer.den k)
def impl_isPeer.sg : Sig := ⟨[.b (.int .i64)], [(.bool, .rd)]⟩
def impl_isPeer.E : Env := ⟨tys, bys, [(102, ⟨impl_in.sg, impl_in.F⟩)], eqs⟩
def impl_isPeer.F (k : Nat) (x : (Int × Unit)) : Option ((Bool × Unit) × Unit) :=
  (impl_in.F k (x.1, (0 : Int), (2 : Int), ())).bind fun y0 =>
  some y0
def impl_isPeer.hd : Hints := ⟨[], [], [2], [0], []⟩
def impl_isPeer.lps (k : Nat) : List (Nat × Lp impl_isPeer.sg.Out) := []
theorem impl_isPeer.loops (k : Nat) : LoopsOk impl_isPeer.E k impl_isPeer.hd (impl_isPeer.lps k) (loopsOf (Go.Proofs.Try.f113.body.getD .skip)) := trivial
theorem impl_isPeer.den (k : Nat) (x : Sig.In impl_isPeer.sg.ps) : denFn impl_isPeer.E k Go.Proofs.Try.f113 impl_isPeer.sg impl_isPeer.hd (runL k impl_isPeer.hd (impl_isPeer.lps k)) x = impl_isPeer.F k x := by kernel_rfl
theorem impl_isPeer.ok (k : Nat) : Contract Try.prog 113 impl_isPeer.sg (impl_isPeer.F k) := ok_of (E := impl_isPeer.E) (tysOk _ _) (eqsOk _) ⟨impl_in.ok k, trivial⟩ Try.func113 rfl (by kernel_rfl) (impl_isPeer.loops k) (impl_isPeer.den k)
def spec_l7Behind.sg : Sig := ⟨[.b kRoute, .b kRoute], [(.bool, .rd)]⟩
def spec_l7Behind.E : Env := ⟨tys, bys, [(188, ⟨spec_l2Ahead.sg, spec_l2Ahead.F⟩)], eqs⟩
def spec_l7Behind.F (k : Nat) (x : ((Int × ((Int × (Int × Unit)) × ((Int × ((List Int) × (Int × (Int × (Int × Unit))))) × Unit))) × ((Int × ((Int × (Int × Unit)) × ((Int × ((List Int) × (Int × (Int × (Int × Unit))))) × Unit))) × Unit))) : Option ((Bool × Unit) × Unit) :=
  bif (!((x.1.2.1.1 == x.2.1.2.1.1) && ((x.1.2.1.2.1 == x.2.1.2.1.2.1) && true))) then
  ((spec_l2Ahead.F k (x.1.2.1, x.2.1.2.1, ())).bind fun y0 =>
    some y0)
  else some (((decide ((x.1.1 < x.2.1.1))), ()), ())
def spec_l7Behind.hd : Hints := ⟨[], [], [4], [0, 1, 2, 3], []⟩
def spec_l7Behind.lps (k : Nat) : List (Nat × Lp spec_l7Behind.sg.Out) := []
theorem spec_l7Behind.loops (k : Nat) : LoopsOk spec_l7Behind.E k spec_l7Behind.hd (spec_l7Behind.lps k) (loopsOf (Go.Proofs.Try.f229.body.getD .skip)) := trivial
theorem spec_l7Behind.den (k : Nat) (x : Sig.In spec_l7Behind.sg.ps) : denFn spec_l7Behind.E k Go.Proofs.Try.f229 spec_l7Behind.sg spec_l7Behind.hd (runL k spec_l7Behind.hd (spec_l7Behind.lps k)) x = spec_l7Behind.F k x := by kernel_rfl
theorem spec_l7Behind.ok (k : Nat) : Contract Try.prog 229 spec_l7Behind.sg (spec_l7Behind.F k) := ok_of (E := spec_l7Behind.E) (tysOk _ _) (eqsOk _) ⟨spec_l2Ahead.ok k, trivial⟩ Try.func229 rfl (by kernel_rfl) (spec_l7Behind.loops k) (spec_l7Behind.den k)
def impl_Route_fault.sg : Sig := ⟨[.b kRoute], [((.int .i64), .rd)]⟩
def impl_Route_fault.E : Env := ⟨tys, bys, [(82, ⟨impl_AttrsFault.sg, impl_AttrsFault.F⟩), (89, ⟨impl_PrefixFault.sg, impl_PrefixFault.F⟩), (113, ⟨impl_isPeer.sg, impl_isPeer.F⟩)], eqs⟩
def impl_Route_fault.F (k : Nat) (x : ((Int × ((Int × (Int × Unit)) × ((Int × ((List Int) × (Int × (Int × (Int × Unit))))) × Unit))) × Unit)) : Option ((Int × Unit) × Unit) :=
  (impl_isPeer.F k (x.1.1, ())).bind fun y0 =>
  bif (!y0.1.1) then
  (some (((3 : Int), ()), ()))
  else (impl_PrefixFault.F k (x.1.2.1, ())).bind fun y1 =>
    bif (y1.1.1 != (0 : Int)) then
    (some y1)
    else (impl_AttrsFault.F k x.1.2.2).bind fun y2 =>
      some y2
def impl_Route_fault.hd : Hints := ⟨[], [], [2], [0, 1, 3], []⟩
def impl_Route_fault.lps (k : Nat) : List (Nat × Lp impl_Route_fault.sg.Out) := []
theorem impl_Route_fault.loops (k : Nat) : LoopsOk impl_Route_fault.E k impl_Route_fault.hd (impl_Route_fault.lps k) (loopsOf (Go.Proofs.Try.f223.body.getD .skip)) := trivial
theorem impl_Route_fault.den (k : Nat) (x : Sig.In impl_Route_fault.sg.ps) : denFn impl_Route_fault.E k Go.Proofs.Try.f223 impl_Route_fault.sg impl_Route_fault.hd (runL k impl_Route_fault.hd (impl_Route_fault.lps k)) x = impl_Route_fault.F k x := by kernel_rfl
theorem impl_Route_fault.ok (k : Nat) : Contract Try.prog 223 impl_Route_fault.sg (impl_Route_fault.F k) := ok_of (E := impl_Route_fault.E) (tysOk _ _) (eqsOk _) ⟨impl_AttrsFault.ok k, impl_PrefixFault.ok k, impl_isPeer.ok k, trivial⟩ Try.func223 rfl (by kernel_rfl) (impl_Route_fault.loops k) (impl_Route_fault.den k)
def impl_compareRoute.sg : Sig := ⟨[.b kRoute, .b kRoute], [((.int .i64), .rd)]⟩
def impl_compareRoute.E : Env := ⟨tys, bys, [(90, ⟨impl_comparePrefix.sg, impl_comparePrefix.F⟩), (204, ⟨cmp_Or_int.sg, cmp_Or_int.F⟩), (205, ⟨cmp_Compare_int64.sg, cmp_Compare_int64.F⟩)], eqs⟩
def impl_compareRoute.F (k : Nat) (x : ((Int × ((Int × (Int × Unit)) × ((Int × ((List Int) × (Int × (Int × (Int × Unit))))) × Unit))) × ((Int × ((Int × (Int × Unit)) × ((Int × ((List Int) × (Int × (Int × (Int × Unit))))) × Unit))) × Unit))) : Option ((Int × Unit) × Unit) :=
  (impl_comparePrefix.F k (x.1.2.1, x.2.1.2.1, ())).bind fun y0 =>
  (cmp_Compare_int64.F k (x.1.1, x.2.1.1, ())).bind fun y1 =>
  (cmp_Or_int.F k ([y0.1.1, y1.1.1], ())).bind fun y2 =>
  some y2
def impl_compareRoute.hd : Hints := ⟨[], [], [4], [0, 1, 2, 3], [(1, [0, 1, 0, 4, 15, 0, 32, 0, 128, 511, 1023, 2047, 4095])]⟩
def impl_compareRoute.lps (k : Nat) : List (Nat × Lp impl_compareRoute.sg.Out) := []
theorem impl_compareRoute.loops (k : Nat) : LoopsOk impl_compareRoute.E k impl_compareRoute.hd (impl_compareRoute.lps k) (loopsOf (Go.Proofs.Try.f224.body.getD .skip)) := trivial
theorem impl_compareRoute.den (k : Nat) (x : Sig.In impl_compareRoute.sg.ps) : denFn impl_compareRoute.E k Go.Proofs.Try.f224 impl_compareRoute.sg impl_compareRoute.hd (runL k impl_compareRoute.hd (impl_compareRoute.lps k)) x = impl_compareRoute.F k x := by kernel_rfl
theorem impl_compareRoute.ok (k : Nat) : Contract Try.prog 224 impl_compareRoute.sg (impl_compareRoute.F k) := ok_of (E := impl_compareRoute.E) (tysOk _ _) (eqsOk _) ⟨impl_comparePrefix.ok k, cmp_Or_int.ok k, cmp_Compare_int64.ok k, trivial⟩ Try.func224 rfl (by kernel_rfl) (impl_compareRoute.loops k) (impl_compareRoute.den k)
def impl_RibFault.sg : Sig := ⟨[.b (.sl kRoute)], [((.int .i64), .rd)]⟩
def impl_RibFault.E : Env := ⟨tys, bys, [(223, ⟨impl_Route_fault.sg, impl_Route_fault.F⟩), (224, ⟨impl_compareRoute.sg, impl_compareRoute.F⟩)], eqs⟩
def impl_RibFault.l4 {ρ : Type} (k : Nat) (c0 : (Int × Unit) → Option ρ) (c1 : Unit → Option ρ) : Nat → List (Int × ((Int × (Int × Unit)) × ((Int × ((List Int) × (Int × (Int × (Int × Unit))))) × Unit))) → List (Int × ((Int × (Int × Unit)) × ((Int × ((List Int) × (Int × (Int × (Int × Unit))))) × Unit))) → Int → Int → Option ρ
  | 0 => fun _ _ _ _ => none
  | n + 1 => fun x0 x1 x2 x3 => 
    bif (decide ((x3 < x2))) then
    (bif (Go.Dn.inB x3 (((List.length x1) : Nat) : Int)) then
      (Go.Dn.share (List.getD x1 (Int.toNat x3) ((0 : Int), (((0 : Int), ((0 : Int), ())), (((0 : Int), (([] : List Int), ((0 : Int), ((0 : Int), ((0 : Int), ()))))), ())))) fun s0 =>
        (impl_Route_fault.F k (s0, ())).bind fun y1 =>
        bif (y1.1.1 != (0 : Int)) then
        (c0 (y1.1.1, ()))
        else bif (decide ((x3 > (0 : Int)))) then
          (bif (Go.Dn.inB (IntKind.wrap .i64 (x3 - (1 : Int))) (((List.length x0) : Nat) : Int)) then
            (Go.Dn.share (List.getD x0 (Int.toNat (IntKind.wrap .i64 (x3 - (1 : Int)))) ((0 : Int), (((0 : Int), ((0 : Int), ())), (((0 : Int), (([] : List Int), ((0 : Int), ((0 : Int), ((0 : Int), ()))))), ())))) fun s2 =>
              (impl_compareRoute.F k (s2, s0, ())).bind fun y3 =>
              bif (decide ((y3.1.1 ≥ (0 : Int)))) then
              (c0 ((1 : Int), ()))
              else impl_RibFault.l4 k c0 c1 n x0 x1 x2 (IntKind.wrap .i64 (x3 + (1 : Int))))
            else none)
          else impl_RibFault.l4 k c0 c1 n x0 x1 x2 (IntKind.wrap .i64 (x3 + (1 : Int))))
      else none)
    else c1 (())
def impl_RibFault.F (k : Nat) (x : ((List (Int × ((Int × (Int × Unit)) × ((Int × ((List Int) × (Int × (Int × (Int × Unit))))) × Unit)))) × Unit)) : Option ((Int × Unit) × Unit) :=
  bif (decide (((((List.length x.1) : Nat) : Int) > (60 : Int)))) then
  (some (((2 : Int), ()), ()))
  else impl_RibFault.l4 k (fun e4 =>
      some (e4, ())) (fun e5 =>
      some (((0 : Int), ()), ())) k x.1 x.1 (((List.length x.1) : Nat) : Int) (0 : Int)
def impl_RibFault.hd : Hints := ⟨[(4, ⟨[0, 9, 10, 11], []⟩)], [(0, []), (1, [0, 9, 10, 11])], [2], [0, 3, 4, 5, 9, 10, 11], [(9, [0, 1, 3, 7, 7, 23, 63, 127, 7, 511, 1023, 2047])]⟩
def impl_RibFault.lps (k : Nat) : List (Nat × Lp impl_RibFault.sg.Out) := [(4, ⟨[.l kRoute, .l kRoute, .i, .i], fun x => (fun x0 x1 x2 x3 => ⟨[(0, .v false [.fz kRoute x0]), (9, .v false [.fz kRoute x1]), (10, .v false [.int .i64 x2]), (11, .v false [.int .i64 x3])], [], []⟩) x.1 x.2.1 x.2.2.1 x.2.2.2.1, fun C n x => impl_RibFault.l4 k (fun y => C .ret ((fun y0 => ⟨[(2, .v false [.int .i64 y0])], [], []⟩) y.1)) (fun _ => C (.exit 0) ⟨[], [], []⟩) n x.1 x.2.1 x.2.2.1 x.2.2.2.1⟩)]
theorem impl_RibFault.loops (k : Nat) : LoopsOk impl_RibFault.E k impl_RibFault.hd (impl_RibFault.lps k) (loopsOf (Go.Proofs.Try.f112.body.getD .skip)) := ⟨⟨fun _ _ => rfl, fun _ _ _ => by kernel_rfl, fun _ => ⟨rfl, rfl⟩⟩, trivial⟩
theorem impl_RibFault.den (k : Nat) (x : Sig.In impl_RibFault.sg.ps) : denFn impl_RibFault.E k Go.Proofs.Try.f112 impl_RibFault.sg impl_RibFault.hd (runL k impl_RibFault.hd (impl_RibFault.lps k)) x = impl_RibFault.F k x := by kernel_rfl
theorem impl_RibFault.ok (k : Nat) : Contract Try.prog 112 impl_RibFault.sg (impl_RibFault.F k) := ok_of (E := impl_RibFault.E) (tysOk _ _) (eqsOk _) ⟨impl_Route_fault.ok k, impl_compareRoute.ok k, trivial⟩ Try.func112 rfl (by kernel_rfl) (impl_RibFault.loops k) (impl_RibFault.den k)
def impl_RuleFault.sg : Sig := ⟨[.b kRule], [((.int .i64), .rd)]⟩
def impl_RuleFault.E : Env := ⟨tys, bys, [(89, ⟨impl_PrefixFault.sg, impl_PrefixFault.F⟩), (102, ⟨impl_in.sg, impl_in.F⟩), (193, ⟨impl_isTwo.sg, impl_isTwo.F⟩)], eqs⟩
def impl_RuleFault.F (k : Nat) (x : (((Int × (Int × Unit)) × (Int × (Int × (Int × (Bool × (Int × (Int × Unit))))))) × Unit)) : Option ((Int × Unit) × Unit) :=
  (impl_PrefixFault.F k (x.1.1, ())).bind fun y0 =>
  bif (y0.1.1 != (0 : Int)) then
  (some y0)
  else (impl_in.F k (x.1.2.1, (0 : Int), (16 : Int), ())).bind fun y1 =>
    bif (!y1.1.1) then
    (some (((3 : Int), ()), ()))
    else (impl_in.F k (x.1.2.2.1, (0 : Int), (16 : Int), ())).bind fun y2 =>
      bif (!y2.1.1) then
      (some (((3 : Int), ()), ()))
      else (impl_isTwo.F k (x.1.2.2.2.1, ())).bind fun y3 =>
        bif (!y3.1.1) then
        (some (((3 : Int), ()), ()))
        else (impl_in.F k (x.1.2.2.2.2.2.1, (-(1 : Int)), (65535 : Int), ())).bind fun y4 =>
          bif (!y4.1.1) then
          (some (((3 : Int), ()), ()))
          else (impl_in.F k (x.1.2.2.2.2.2.2.1, (0 : Int), (3 : Int), ())).bind fun y5 =>
            bif (!y5.1.1) then
            (some (((3 : Int), ()), ()))
            else bif (decide ((x.1.2.1 > x.1.2.2.1))) then
              (some (((1 : Int), ()), ()))
              else bif x.1.2.2.2.2.1 then
                (bif (x.1.2.2.2.2.2.1 != (-(1 : Int))) then
                  (some (((1 : Int), ()), ()))
                  else bif (x.1.2.2.2.2.2.2.1 != (0 : Int)) then
                    (some (((1 : Int), ()), ()))
                    else some (((0 : Int), ()), ()))
                else some (((0 : Int), ()), ())
def impl_RuleFault.hd : Hints := ⟨[], [(0, [])], [2], [0, 1, 3], []⟩
def impl_RuleFault.lps (k : Nat) : List (Nat × Lp impl_RuleFault.sg.Out) := []
theorem impl_RuleFault.loops (k : Nat) : LoopsOk impl_RuleFault.E k impl_RuleFault.hd (impl_RuleFault.lps k) (loopsOf (Go.Proofs.Try.f225.body.getD .skip)) := trivial
theorem impl_RuleFault.den (k : Nat) (x : Sig.In impl_RuleFault.sg.ps) : denFn impl_RuleFault.E k Go.Proofs.Try.f225 impl_RuleFault.sg impl_RuleFault.hd (runL k impl_RuleFault.hd (impl_RuleFault.lps k)) x = impl_RuleFault.F k x := by kernel_rfl
theorem impl_RuleFault.ok (k : Nat) : Contract Try.prog 225 impl_RuleFault.sg (impl_RuleFault.F k) := ok_of (E := impl_RuleFault.E) (tysOk _ _) (eqsOk _) ⟨impl_PrefixFault.ok k, impl_in.ok k, impl_isTwo.ok k, trivial⟩ Try.func225 rfl (by kernel_rfl) (impl_RuleFault.loops k) (impl_RuleFault.den k)
def impl_RulesFault.sg : Sig := ⟨[.b (.sl kRule)], [((.int .i64), .rd)]⟩
def impl_RulesFault.E : Env := ⟨tys, bys, [(225, ⟨impl_RuleFault.sg, impl_RuleFault.F⟩)], eqs⟩
def impl_RulesFault.l4 {ρ : Type} (k : Nat) (c0 : (Int × Unit) → Option ρ) (c1 : Unit → Option ρ) : Nat → List ((Int × (Int × Unit)) × (Int × (Int × (Int × (Bool × (Int × (Int × Unit))))))) → Int → Int → Option ρ
  | 0 => fun _ _ _ => none
  | n + 1 => fun x0 x1 x2 => 
    bif (decide ((x2 < x1))) then
    (bif (Go.Dn.inB x2 (((List.length x0) : Nat) : Int)) then
      (Go.Dn.share (List.getD x0 (Int.toNat x2) (((0 : Int), ((0 : Int), ())), ((0 : Int), ((0 : Int), ((0 : Int), (false, ((0 : Int), ((0 : Int), ())))))))) fun s0 =>
        (impl_RuleFault.F k (s0, ())).bind fun y1 =>
        bif (y1.1.1 != (0 : Int)) then
        (c0 (y1.1.1, ()))
        else impl_RulesFault.l4 k c0 c1 n x0 x1 (IntKind.wrap .i64 (x2 + (1 : Int))))
      else none)
    else c1 (())
def impl_RulesFault.F (k : Nat) (x : ((List ((Int × (Int × Unit)) × (Int × (Int × (Int × (Bool × (Int × (Int × Unit)))))))) × Unit)) : Option ((Int × Unit) × Unit) :=
  bif (decide (((((List.length x.1) : Nat) : Int) > (8 : Int)))) then
  (some (((2 : Int), ()), ()))
  else impl_RulesFault.l4 k (fun e2 =>
      some (e2, ())) (fun e3 =>
      some (((0 : Int), ()), ())) k x.1 (((List.length x.1) : Nat) : Int) (0 : Int)
def impl_RulesFault.hd : Hints := ⟨[(4, ⟨[9, 10, 11], []⟩)], [(0, []), (1, [9, 10, 11])], [2], [0, 4, 5, 9, 10, 11], []⟩
def impl_RulesFault.lps (k : Nat) : List (Nat × Lp impl_RulesFault.sg.Out) := [(4, ⟨[.l kRule, .i, .i], fun x => (fun x0 x1 x2 => ⟨[(9, .v false [.fz kRule x0]), (10, .v false [.int .i64 x1]), (11, .v false [.int .i64 x2])], [], []⟩) x.1 x.2.1 x.2.2.1, fun C n x => impl_RulesFault.l4 k (fun y => C .ret ((fun y0 => ⟨[(2, .v false [.int .i64 y0])], [], []⟩) y.1)) (fun _ => C (.exit 0) ⟨[], [], []⟩) n x.1 x.2.1 x.2.2.1⟩)]
theorem impl_RulesFault.loops (k : Nat) : LoopsOk impl_RulesFault.E k impl_RulesFault.hd (impl_RulesFault.lps k) (loopsOf (Go.Proofs.Try.f114.body.getD .skip)) := ⟨⟨fun _ _ => rfl, fun _ _ _ => by kernel_rfl, fun _ => ⟨rfl, rfl⟩⟩, trivial⟩
theorem impl_RulesFault.den (k : Nat) (x : Sig.In impl_RulesFault.sg.ps) : denFn impl_RulesFault.E k Go.Proofs.Try.f114 impl_RulesFault.sg impl_RulesFault.hd (runL k impl_RulesFault.hd (impl_RulesFault.lps k)) x = impl_RulesFault.F k x := by kernel_rfl
theorem impl_RulesFault.ok (k : Nat) : Contract Try.prog 114 impl_RulesFault.sg (impl_RulesFault.F k) := ok_of (E := impl_RulesFault.E) (tysOk _ _) (eqsOk _) ⟨impl_RuleFault.ok k, trivial⟩ Try.func114 rfl (by kernel_rfl) (impl_RulesFault.loops k) (impl_RulesFault.den k)
def slices_Clone_impl_Route_impl_Route.sg : Sig := ⟨[.b (.sl kRoute)], [((.sl kRoute), .fl)]⟩
def slices_Clone_impl_Route_impl_Route.E : Env := ⟨tys, bys, [], eqs⟩
def slices_Clone_impl_Route_impl_Route.F (k : Nat) (x : ((List (Int × ((Int × (Int × Unit)) × ((Int × ((List Int) × (Int × (Int × (Int × Unit))))) × Unit)))) × Unit)) : Option (((List (Int × ((Int × (Int × Unit)) × ((Int × ((List Int) × (Int × (Int × (Int × Unit))))) × Unit)))) × Unit) × Unit) :=
  bif (Nat.beq (List.length x.1) 0) then
  (Go.Dn.agree
    (some ((([] : List (Int × ((Int × (Int × Unit)) × ((Int × ((List Int) × (Int × (Int × (Int × Unit))))) × Unit)))), ()), ()))
    (bif (Go.Dn.roomy ((List.length ([] : List (Int × ((Int × (Int × Unit)) × ((Int × ((List Int) × (Int × (Int × (Int × Unit))))) × Unit))))) + (List.length x.1)) 80) then
      (Go.Dn.share (([] : List (Int × ((Int × (Int × Unit)) × ((Int × ((List Int) × (Int × (Int × (Int × Unit))))) × Unit)))) ++ x.1) fun s0 =>
        some ((s0, ()), ()))
      else none))
  else bif (Go.Dn.roomy ((List.length ([] : List (Int × ((Int × (Int × Unit)) × ((Int × ((List Int) × (Int × (Int × (Int × Unit))))) × Unit))))) + (List.length x.1)) 80) then
    (Go.Dn.share (([] : List (Int × ((Int × (Int × Unit)) × ((Int × ((List Int) × (Int × (Int × (Int × Unit))))) × Unit)))) ++ x.1) fun s1 =>
      some ((s1, ()), ()))
    else none
def slices_Clone_impl_Route_impl_Route.hd : Hints := ⟨[], [], [2], [0], []⟩
def slices_Clone_impl_Route_impl_Route.lps (k : Nat) : List (Nat × Lp slices_Clone_impl_Route_impl_Route.sg.Out) := []
theorem slices_Clone_impl_Route_impl_Route.loops (k : Nat) : LoopsOk slices_Clone_impl_Route_impl_Route.E k slices_Clone_impl_Route_impl_Route.hd (slices_Clone_impl_Route_impl_Route.lps k) (loopsOf (Go.Proofs.Try.f299.body.getD .skip)) := trivial
theorem slices_Clone_impl_Route_impl_Route.den (k : Nat) (x : Sig.In slices_Clone_impl_Route_impl_Route.sg.ps) : denFn slices_Clone_impl_Route_impl_Route.E k Go.Proofs.Try.f299 slices_Clone_impl_Route_impl_Route.sg slices_Clone_impl_Route_impl_Route.hd (runL k slices_Clone_impl_Route_impl_Route.hd (slices_Clone_impl_Route_impl_Route.lps k)) x = slices_Clone_impl_Route_impl_Route.F k x := by kernel_rfl
theorem slices_Clone_impl_Route_impl_Route.ok (k : Nat) : Contract Try.prog 299 slices_Clone_impl_Route_impl_Route.sg (slices_Clone_impl_Route_impl_Route.F k) := ok_of (E := slices_Clone_impl_Route_impl_Route.E) (tysOk _ _) (eqsOk _) trivial Try.func299 rfl (by kernel_rfl) (slices_Clone_impl_Route_impl_Route.loops k) (slices_Clone_impl_Route_impl_Route.den k)
def impl_copiedRoutes.sg : Sig := ⟨[.b (.sl kRoute)], [((.sl kRoute), .fl)]⟩
def impl_copiedRoutes.E : Env := ⟨tys, bys, [(87, ⟨impl_Attrs_copied.sg, impl_Attrs_copied.F⟩), (299, ⟨slices_Clone_impl_Route_impl_Route.sg, slices_Clone_impl_Route_impl_Route.F⟩)], eqs⟩
def impl_copiedRoutes.l3 {ρ : Type} (k : Nat) (c0 : (List (Int × ((Int × (Int × Unit)) × ((Int × ((List Int) × (Int × (Int × (Int × Unit))))) × Unit))) × Unit) → Option ρ) : Nat → Int → Int → List (Int × ((Int × (Int × Unit)) × ((Int × ((List Int) × (Int × (Int × (Int × Unit))))) × Unit))) → Option ρ
  | 0 => fun _ _ _ => none
  | n + 1 => fun x0 x1 x2 => 
    bif (decide ((x1 < x0))) then
    (bif (Go.Dn.inB x1 (((List.length x2) : Nat) : Int)) then
      ((impl_Attrs_copied.F k (List.getD x2 (Int.toNat x1) ((0 : Int), (((0 : Int), ((0 : Int), ())), (((0 : Int), (([] : List Int), ((0 : Int), ((0 : Int), ((0 : Int), ()))))), ())))).2.2).bind fun y1 =>
        bif (Go.Dn.inB x1 (((List.length x2) : Nat) : Int)) then
        (Go.Dn.share (List.set x2 (Int.toNat x1) ((List.getD x2 (Int.toNat x1) ((0 : Int), (((0 : Int), ((0 : Int), ())), (((0 : Int), (([] : List Int), ((0 : Int), ((0 : Int), ((0 : Int), ()))))), ())))).1, (List.getD x2 (Int.toNat x1) ((0 : Int), (((0 : Int), ((0 : Int), ())), (((0 : Int), (([] : List Int), ((0 : Int), ((0 : Int), ((0 : Int), ()))))), ())))).2.1, (y1.1.1.1, y1.1.1.2.1, y1.1.1.2.2.1, y1.1.1.2.2.2.1, y1.1.1.2.2.2.2.1, (List.getD x2 (Int.toNat x1) ((0 : Int), (((0 : Int), ((0 : Int), ())), (((0 : Int), (([] : List Int), ((0 : Int), ((0 : Int), ((0 : Int), ()))))), ())))).2.2.1.2.2.2.2.2), (List.getD x2 (Int.toNat x1) ((0 : Int), (((0 : Int), ((0 : Int), ())), (((0 : Int), (([] : List Int), ((0 : Int), ((0 : Int), ((0 : Int), ()))))), ())))).2.2.2)) fun s2 =>
          impl_copiedRoutes.l3 k c0 n x0 (IntKind.wrap .i64 (x1 + (1 : Int))) s2)
        else none)
      else none)
    else c0 (x2, ())
def impl_copiedRoutes.F (k : Nat) (x : ((List (Int × ((Int × (Int × Unit)) × ((Int × ((List Int) × (Int × (Int × (Int × Unit))))) × Unit)))) × Unit)) : Option (((List (Int × ((Int × (Int × Unit)) × ((Int × ((List Int) × (Int × (Int × (Int × Unit))))) × Unit)))) × Unit) × Unit) :=
  (slices_Clone_impl_Route_impl_Route.F k x).bind fun y0 =>
  impl_copiedRoutes.l3 k (fun e3 =>
    some (e3, ())) k (((List.length y0.1.1) : Nat) : Int) (0 : Int) y0.1.1
def impl_copiedRoutes.hd : Hints := ⟨[(3, ⟨[3, 8, 9, 10], []⟩)], [(0, [3]), (1, [3, 8, 9, 10])], [2], [0, 3, 4, 5, 8, 9, 10], []⟩
def impl_copiedRoutes.lps (k : Nat) : List (Nat × Lp impl_copiedRoutes.sg.Out) := [(3, ⟨[.i, .i, .l kRoute], fun x => (fun x0 x1 x2 => ⟨[(3, .v false [.arr 0]), (8, .v false [.arr 0]), (9, .v false [.int .i64 x0]), (10, .v false [.int .i64 x1])], [(0, .arr kRoute false false x2)], []⟩) x.1 x.2.1 x.2.2.1, fun C n x => impl_copiedRoutes.l3 k (fun y => C (.exit 0) ((fun y0 => ⟨[(3, .v false [.arr 0])], [(0, .arr kRoute false false y0)], []⟩) y.1)) n x.1 x.2.1 x.2.2.1⟩)]
theorem impl_copiedRoutes.loops (k : Nat) : LoopsOk impl_copiedRoutes.E k impl_copiedRoutes.hd (impl_copiedRoutes.lps k) (loopsOf (Go.Proofs.Try.f234.body.getD .skip)) := ⟨⟨fun _ _ => rfl, fun _ _ _ => by kernel_rfl, fun _ => ⟨rfl, rfl⟩⟩, trivial⟩
theorem impl_copiedRoutes.den (k : Nat) (x : Sig.In impl_copiedRoutes.sg.ps) : denFn impl_copiedRoutes.E k Go.Proofs.Try.f234 impl_copiedRoutes.sg impl_copiedRoutes.hd (runL k impl_copiedRoutes.hd (impl_copiedRoutes.lps k)) x = impl_copiedRoutes.F k x := by kernel_rfl
theorem impl_copiedRoutes.ok (k : Nat) : Contract Try.prog 234 impl_copiedRoutes.sg (impl_copiedRoutes.F k) := ok_of (E := impl_copiedRoutes.E) (tysOk _ _) (eqsOk _) ⟨impl_Attrs_copied.ok k, slices_Clone_impl_Route_impl_Route.ok k, trivial⟩ Try.func234 rfl (by kernel_rfl) (impl_copiedRoutes.loops k) (impl_copiedRoutes.den k)
def cmp_isNaN_int.sg : Sig := ⟨[.b (.int .i64)], [(.bool, .rd)]⟩
def cmp_isNaN_int.E : Env := ⟨tys, bys, [], eqs⟩
def cmp_isNaN_int.F (k : Nat) (x : (Int × Unit)) : Option ((Bool × Unit) × Unit) :=
  some (((x.1 != x.1), ()), ())
def cmp_isNaN_int.hd : Hints := ⟨[], [], [2], [0], []⟩
def cmp_isNaN_int.lps (k : Nat) : List (Nat × Lp cmp_isNaN_int.sg.Out) := []
theorem cmp_isNaN_int.loops (k : Nat) : LoopsOk cmp_isNaN_int.E k cmp_isNaN_int.hd (cmp_isNaN_int.lps k) (loopsOf (Go.Proofs.Try.f318.body.getD .skip)) := trivial
theorem cmp_isNaN_int.den (k : Nat) (x : Sig.In cmp_isNaN_int.sg.ps) : denFn cmp_isNaN_int.E k Go.Proofs.Try.f318 cmp_isNaN_int.sg cmp_isNaN_int.hd (runL k cmp_isNaN_int.hd (cmp_isNaN_int.lps k)) x = cmp_isNaN_int.F k x := by kernel_rfl
theorem cmp_isNaN_int.ok (k : Nat) : Contract Try.prog 318 cmp_isNaN_int.sg (cmp_isNaN_int.F k) := ok_of (E := cmp_isNaN_int.E) (tysOk _ _) (eqsOk _) trivial Try.func318 rfl (by kernel_rfl) (cmp_isNaN_int.loops k) (cmp_isNaN_int.den k)
def cmp_Compare_int.sg : Sig := ⟨[.b (.int .i64), .b (.int .i64)], [((.int .i64), .rd)]⟩
def cmp_Compare_int.E : Env := ⟨tys, bys, [(318, ⟨cmp_isNaN_int.sg, cmp_isNaN_int.F⟩)], eqs⟩
def cmp_Compare_int.F (k : Nat) (x : (Int × (Int × Unit))) : Option ((Int × Unit) × Unit) :=
  (cmp_isNaN_int.F k (x.1, ())).bind fun y0 =>
  (cmp_isNaN_int.F k x.2).bind fun y1 =>
  bif y0.1.1 then
  (bif y1.1.1 then
    (some (((0 : Int), ()), ()))
    else some (((-(1 : Int)), ()), ()))
  else bif y1.1.1 then
    (some (((1 : Int), ()), ()))
    else bif (decide ((x.1 < x.2.1))) then
      (some (((-(1 : Int)), ()), ()))
      else bif (decide ((x.1 > x.2.1))) then
        (some (((1 : Int), ()), ()))
        else some (((0 : Int), ()), ())
def cmp_Compare_int.hd : Hints := ⟨[], [], [4], [0, 1, 5, 6], []⟩
def cmp_Compare_int.lps (k : Nat) : List (Nat × Lp cmp_Compare_int.sg.Out) := []
theorem cmp_Compare_int.loops (k : Nat) : LoopsOk cmp_Compare_int.E k cmp_Compare_int.hd (cmp_Compare_int.lps k) (loopsOf (Go.Proofs.Try.f300.body.getD .skip)) := trivial
theorem cmp_Compare_int.den (k : Nat) (x : Sig.In cmp_Compare_int.sg.ps) : denFn cmp_Compare_int.E k Go.Proofs.Try.f300 cmp_Compare_int.sg cmp_Compare_int.hd (runL k cmp_Compare_int.hd (cmp_Compare_int.lps k)) x = cmp_Compare_int.F k x := by kernel_rfl
theorem cmp_Compare_int.ok (k : Nat) : Contract Try.prog 300 cmp_Compare_int.sg (cmp_Compare_int.F k) := ok_of (E := cmp_Compare_int.E) (tysOk _ _) (eqsOk _) ⟨cmp_isNaN_int.ok k, trivial⟩ Try.func300 rfl (by kernel_rfl) (cmp_Compare_int.loops k) (cmp_Compare_int.den k)
def impl_better.sg : Sig := ⟨[.b kRoute, .b kRoute], [(.bool, .rd)]⟩
def impl_better.E : Env := ⟨tys, bys, [(204, ⟨cmp_Or_int.sg, cmp_Or_int.F⟩), (205, ⟨cmp_Compare_int64.sg, cmp_Compare_int64.F⟩), (300, ⟨cmp_Compare_int.sg, cmp_Compare_int.F⟩)], eqs⟩
def impl_better.F (k : Nat) (x : ((Int × ((Int × (Int × Unit)) × ((Int × ((List Int) × (Int × (Int × (Int × Unit))))) × Unit))) × ((Int × ((Int × (Int × Unit)) × ((Int × ((List Int) × (Int × (Int × (Int × Unit))))) × Unit))) × Unit))) : Option ((Bool × Unit) × Unit) :=
  (cmp_Compare_int64.F k (x.2.1.2.2.1.2.2.2.2.1, x.1.2.2.1.2.2.2.2)).bind fun y0 =>
  (cmp_Compare_int.F k ((((List.length x.1.2.2.1.2.1) : Nat) : Int), (((List.length x.2.1.2.2.1.2.1) : Nat) : Int), ())).bind fun y1 =>
  (cmp_Compare_int64.F k (x.1.2.2.1.1, x.2.1.2.2.1.1, ())).bind fun y2 =>
  (cmp_Compare_int64.F k (x.1.2.2.1.2.2.2.1, x.2.1.2.2.1.2.2.2.1, ())).bind fun y3 =>
  (cmp_Compare_int64.F k (x.1.1, x.2.1.1, ())).bind fun y4 =>
  (cmp_Or_int.F k ([y0.1.1, y1.1.1, y2.1.1, y3.1.1, y4.1.1], ())).bind fun y5 =>
  some (((decide ((y5.1.1 < (0 : Int)))), ()), ())
def impl_better.hd : Hints := ⟨[], [], [4], [0, 1, 2, 3], [(1, [0, 1, 3, 0, 8, 24, 63, 0, 128, 384, 896, 0, 2048, 6144, 14336, 32767, 0, 65536, 196608, 0, 524288, 1572864, 4194303, 0, 8388608, 25165824, 0, 67108864, 201326592, 536870911, 0, 1073741824, 0, 4294967296, 17179869183, 34359738367, 68719476735, 137438953471, 274877906943])]⟩
def impl_better.lps (k : Nat) : List (Nat × Lp impl_better.sg.Out) := []
theorem impl_better.loops (k : Nat) : LoopsOk impl_better.E k impl_better.hd (impl_better.lps k) (loopsOf (Go.Proofs.Try.f235.body.getD .skip)) := trivial
theorem impl_better.den (k : Nat) (x : Sig.In impl_better.sg.ps) : denFn impl_better.E k Go.Proofs.Try.f235 impl_better.sg impl_better.hd (runL k impl_better.hd (impl_better.lps k)) x = impl_better.F k x := by kernel_rfl
theorem impl_better.ok (k : Nat) : Contract Try.prog 235 impl_better.sg (impl_better.F k) := ok_of (E := impl_better.E) (tysOk _ _) (eqsOk _) ⟨cmp_Or_int.ok k, cmp_Compare_int64.ok k, cmp_Compare_int.ok k, trivial⟩ Try.func235 rfl (by kernel_rfl) (impl_better.loops k) (impl_better.den k)
def impl_bestOfAll.sg : Sig := ⟨[.b (.sl kRoute)], [((.sl kRoute), .rd)]⟩
def impl_bestOfAll.E : Env := ⟨tys, bys, [(234, ⟨impl_copiedRoutes.sg, impl_copiedRoutes.F⟩), (235, ⟨impl_better.sg, impl_better.F⟩)], eqs⟩
def impl_bestOfAll.l3 {ρ : Type} (k : Nat) (c0 : (List (Int × ((Int × (Int × Unit)) × ((Int × ((List Int) × (Int × (Int × (Int × Unit))))) × Unit))) × Unit) → Option ρ) : Nat → Int → Int → List (Int × ((Int × (Int × Unit)) × ((Int × ((List Int) × (Int × (Int × (Int × Unit))))) × Unit))) → List (Int × ((Int × (Int × Unit)) × ((Int × ((List Int) × (Int × (Int × (Int × Unit))))) × Unit))) → Option ρ
  | 0 => fun _ _ _ _ => none
  | n + 1 => fun x0 x1 x2 x3 => 
    bif (decide ((x1 < x0))) then
    (bif (Go.Dn.inB x1 (((List.length x3) : Nat) : Int)) then
      (bif (decide (((IntKind.wrap .i64 ((((List.length x2) : Nat) : Int) - (1 : Int))) < (0 : Int)))) then
        (bif (Go.Dn.roomy ((List.length x2) + (List.length [(List.getD x3 (Int.toNat x1) ((0 : Int), (((0 : Int), ((0 : Int), ())), (((0 : Int), (([] : List Int), ((0 : Int), ((0 : Int), ((0 : Int), ()))))), ()))))])) 80) then
          (Go.Dn.share (x2 ++ [(List.getD x3 (Int.toNat x1) ((0 : Int), (((0 : Int), ((0 : Int), ())), (((0 : Int), (([] : List Int), ((0 : Int), ((0 : Int), ((0 : Int), ()))))), ()))))]) fun s1 =>
            impl_bestOfAll.l3 k c0 n x0 (IntKind.wrap .i64 (x1 + (1 : Int))) s1 x3)
          else none)
        else bif (Go.Dn.inB (IntKind.wrap .i64 ((((List.length x2) : Nat) : Int) - (1 : Int))) (((List.length x2) : Nat) : Int)) then
          (bif (!(((List.getD x2 (Int.toNat (IntKind.wrap .i64 ((((List.length x2) : Nat) : Int) - (1 : Int)))) ((0 : Int), (((0 : Int), ((0 : Int), ())), (((0 : Int), (([] : List Int), ((0 : Int), ((0 : Int), ((0 : Int), ()))))), ())))).2.1.1 == (List.getD x3 (Int.toNat x1) ((0 : Int), (((0 : Int), ((0 : Int), ())), (((0 : Int), (([] : List Int), ((0 : Int), ((0 : Int), ((0 : Int), ()))))), ())))).2.1.1) && (((List.getD x2 (Int.toNat (IntKind.wrap .i64 ((((List.length x2) : Nat) : Int) - (1 : Int)))) ((0 : Int), (((0 : Int), ((0 : Int), ())), (((0 : Int), (([] : List Int), ((0 : Int), ((0 : Int), ((0 : Int), ()))))), ())))).2.1.2.1 == (List.getD x3 (Int.toNat x1) ((0 : Int), (((0 : Int), ((0 : Int), ())), (((0 : Int), (([] : List Int), ((0 : Int), ((0 : Int), ((0 : Int), ()))))), ())))).2.1.2.1) && true))) then
            (bif (Go.Dn.roomy ((List.length x2) + (List.length [(List.getD x3 (Int.toNat x1) ((0 : Int), (((0 : Int), ((0 : Int), ())), (((0 : Int), (([] : List Int), ((0 : Int), ((0 : Int), ((0 : Int), ()))))), ()))))])) 80) then
              (Go.Dn.share (x2 ++ [(List.getD x3 (Int.toNat x1) ((0 : Int), (((0 : Int), ((0 : Int), ())), (((0 : Int), (([] : List Int), ((0 : Int), ((0 : Int), ((0 : Int), ()))))), ()))))]) fun s2 =>
                impl_bestOfAll.l3 k c0 n x0 (IntKind.wrap .i64 (x1 + (1 : Int))) s2 x3)
              else none)
            else bif (Go.Dn.inB (IntKind.wrap .i64 ((((List.length x2) : Nat) : Int) - (1 : Int))) (((List.length x2) : Nat) : Int)) then
              ((impl_better.F k ((List.getD x3 (Int.toNat x1) ((0 : Int), (((0 : Int), ((0 : Int), ())), (((0 : Int), (([] : List Int), ((0 : Int), ((0 : Int), ((0 : Int), ()))))), ())))), (List.getD x2 (Int.toNat (IntKind.wrap .i64 ((((List.length x2) : Nat) : Int) - (1 : Int)))) ((0 : Int), (((0 : Int), ((0 : Int), ())), (((0 : Int), (([] : List Int), ((0 : Int), ((0 : Int), ((0 : Int), ()))))), ())))), ())).bind fun y3 =>
                bif y3.1.1 then
                (bif (Go.Dn.inB (IntKind.wrap .i64 ((((List.length x2) : Nat) : Int) - (1 : Int))) (((List.length x2) : Nat) : Int)) then
                  (Go.Dn.share (List.set x2 (Int.toNat (IntKind.wrap .i64 ((((List.length x2) : Nat) : Int) - (1 : Int)))) ((List.getD x3 (Int.toNat x1) ((0 : Int), (((0 : Int), ((0 : Int), ())), (((0 : Int), (([] : List Int), ((0 : Int), ((0 : Int), ((0 : Int), ()))))), ())))).1, (List.getD x3 (Int.toNat x1) ((0 : Int), (((0 : Int), ((0 : Int), ())), (((0 : Int), (([] : List Int), ((0 : Int), ((0 : Int), ((0 : Int), ()))))), ())))).2.1, ((List.getD x3 (Int.toNat x1) ((0 : Int), (((0 : Int), ((0 : Int), ())), (((0 : Int), (([] : List Int), ((0 : Int), ((0 : Int), ((0 : Int), ()))))), ())))).2.2.1.1, (List.getD x3 (Int.toNat x1) ((0 : Int), (((0 : Int), ((0 : Int), ())), (((0 : Int), (([] : List Int), ((0 : Int), ((0 : Int), ((0 : Int), ()))))), ())))).2.2.1.2.1, (List.getD x3 (Int.toNat x1) ((0 : Int), (((0 : Int), ((0 : Int), ())), (((0 : Int), (([] : List Int), ((0 : Int), ((0 : Int), ((0 : Int), ()))))), ())))).2.2.1.2.2.1, (List.getD x3 (Int.toNat x1) ((0 : Int), (((0 : Int), ((0 : Int), ())), (((0 : Int), (([] : List Int), ((0 : Int), ((0 : Int), ((0 : Int), ()))))), ())))).2.2.1.2.2.2.1, (List.getD x3 (Int.toNat x1) ((0 : Int), (((0 : Int), ((0 : Int), ())), (((0 : Int), (([] : List Int), ((0 : Int), ((0 : Int), ((0 : Int), ()))))), ())))).2.2.1.2.2.2.2.1, (List.getD x2 (Int.toNat (IntKind.wrap .i64 ((((List.length x2) : Nat) : Int) - (1 : Int)))) ((0 : Int), (((0 : Int), ((0 : Int), ())), (((0 : Int), (([] : List Int), ((0 : Int), ((0 : Int), ((0 : Int), ()))))), ())))).2.2.1.2.2.2.2.2), (List.getD x2 (Int.toNat (IntKind.wrap .i64 ((((List.length x2) : Nat) : Int) - (1 : Int)))) ((0 : Int), (((0 : Int), ((0 : Int), ())), (((0 : Int), (([] : List Int), ((0 : Int), ((0 : Int), ((0 : Int), ()))))), ())))).2.2.2)) fun s4 =>
                    impl_bestOfAll.l3 k c0 n x0 (IntKind.wrap .i64 (x1 + (1 : Int))) s4 x3)
                  else none)
                else impl_bestOfAll.l3 k c0 n x0 (IntKind.wrap .i64 (x1 + (1 : Int))) x2 x3)
              else none)
          else none)
      else none)
    else c0 (x2, ())
def impl_bestOfAll.F (k : Nat) (x : ((List (Int × ((Int × (Int × Unit)) × ((Int × ((List Int) × (Int × (Int × (Int × Unit))))) × Unit)))) × Unit)) : Option (((List (Int × ((Int × (Int × Unit)) × ((Int × ((List Int) × (Int × (Int × (Int × Unit))))) × Unit)))) × Unit) × Unit) :=
  (impl_copiedRoutes.F k x).bind fun y0 =>
  impl_bestOfAll.l3 k (fun e5 =>
    some (e5, ())) k (((List.length y0.1.1) : Nat) : Int) (0 : Int) ([] : List (Int × ((Int × (Int × Unit)) × ((Int × ((List Int) × (Int × (Int × (Int × Unit))))) × Unit)))) y0.1.1
def impl_bestOfAll.hd : Hints := ⟨[(3, ⟨[3, 9, 10, 11], [⟨3, none, .share⟩]⟩)], [(0, [3]), (1, [3, 9, 10, 11]), (2, [3, 9, 10, 11])], [2], [0, 3, 5, 6, 9, 10, 11], [(6, [0, 1, 3, 7, 7, 31, 63, 127, 7, 263, 1023, 2047, 4095]), (8, [0, 0, 0, 6, 14, 31, 63])]⟩
def impl_bestOfAll.lps (k : Nat) : List (Nat × Lp impl_bestOfAll.sg.Out) := [(3, ⟨[.i, .i, .l kRoute, .l kRoute], fun x => (fun x0 x1 x2 x3 => ⟨[(3, .v false [.arr 0]), (9, .v false [.arr 2]), (10, .v false [.int .i64 x0]), (11, .v false [.int .i64 x1])], [(0, .arr kRoute false false x2), (2, .arr kRoute false false x3)], []⟩) x.1 x.2.1 x.2.2.1 x.2.2.2.1, fun C n x => impl_bestOfAll.l3 k (fun y => C (.exit 0) ((fun y0 => ⟨[(3, .v false [.arr 0])], [(0, .arr kRoute false false y0)], []⟩) y.1)) n x.1 x.2.1 x.2.2.1 x.2.2.2.1⟩)]
theorem impl_bestOfAll.loops (k : Nat) : LoopsOk impl_bestOfAll.E k impl_bestOfAll.hd (impl_bestOfAll.lps k) (loopsOf (Go.Proofs.Try.f124.body.getD .skip)) := ⟨⟨fun _ _ => rfl, fun _ _ _ => by kernel_rfl, fun _ => ⟨rfl, rfl⟩⟩, trivial⟩
theorem impl_bestOfAll.den (k : Nat) (x : Sig.In impl_bestOfAll.sg.ps) : denFn impl_bestOfAll.E k Go.Proofs.Try.f124 impl_bestOfAll.sg impl_bestOfAll.hd (runL k impl_bestOfAll.hd (impl_bestOfAll.lps k)) x = impl_bestOfAll.F k x := by kernel_rfl
theorem impl_bestOfAll.ok (k : Nat) : Contract Try.prog 124 impl_bestOfAll.sg (impl_bestOfAll.F k) := ok_of (E := impl_bestOfAll.E) (tysOk _ _) (eqsOk _) ⟨impl_copiedRoutes.ok k, impl_better.ok k, trivial⟩ Try.func124 rfl (by kernel_rfl) (impl_bestOfAll.loops k) (impl_bestOfAll.den k)
def slices_IndexFunc_impl_Rule_impl_Rule.sg : Sig := ⟨[.b (.sl kRule), .f (.pair kRule .unit) .bool], [((.int .i64), .rd)]⟩
def slices_IndexFunc_impl_Rule_impl_Rule.E : Env := ⟨tys, bys, [], eqs⟩
def slices_IndexFunc_impl_Rule_impl_Rule.l2 {ρ : Type} (k : Nat) (c0 : (Int × Unit) → Option ρ) (c1 : Unit → Option ρ) : Nat → List ((Int × (Int × Unit)) × (Int × (Int × (Int × (Bool × (Int × (Int × Unit))))))) → ((((Int × (Int × Unit)) × (Int × (Int × (Int × (Bool × (Int × (Int × Unit))))))) × Unit) → Option Bool) → Int → Int → Option ρ
  | 0 => fun _ _ _ _ => none
  | n + 1 => fun x0 x1 x2 x3 => 
    bif (decide ((x3 < x2))) then
    (bif (Go.Dn.inB x3 (((List.length x0) : Nat) : Int)) then
      (Go.Dn.share (List.getD x0 (Int.toNat x3) (((0 : Int), ((0 : Int), ())), ((0 : Int), ((0 : Int), ((0 : Int), (false, ((0 : Int), ((0 : Int), ())))))))) fun s0 =>
        (x1 (s0, ())).bind fun y1 =>
        bif y1 then
        (c0 (x3, ()))
        else slices_IndexFunc_impl_Rule_impl_Rule.l2 k c0 c1 n x0 x1 x2 (IntKind.wrap .i64 (x3 + (1 : Int))))
      else none)
    else c1 (())
def slices_IndexFunc_impl_Rule_impl_Rule.F (k : Nat) (x : ((List ((Int × (Int × Unit)) × (Int × (Int × (Int × (Bool × (Int × (Int × Unit)))))))) × (((((Int × (Int × Unit)) × (Int × (Int × (Int × (Bool × (Int × (Int × Unit))))))) × Unit) → Option Bool) × Unit))) : Option ((Int × Unit) × Unit) :=
  slices_IndexFunc_impl_Rule_impl_Rule.l2 k (fun e2 =>
    some (e2, ())) (fun e3 =>
    some (((-(1 : Int)), ()), ())) k x.1 x.2.1 (((List.length x.1) : Nat) : Int) (0 : Int)
def slices_IndexFunc_impl_Rule_impl_Rule.hd : Hints := ⟨[(2, ⟨[0, 1, 7, 8], []⟩)], [(0, []), (1, [0, 1, 7, 8])], [4], [0, 1, 5, 7, 8], []⟩
def slices_IndexFunc_impl_Rule_impl_Rule.lps (k : Nat) : List (Nat × Lp slices_IndexFunc_impl_Rule_impl_Rule.sg.Out) := [(2, ⟨[.l kRule, .f (.pair kRule .unit) .bool, .i, .i], fun x => (fun x0 x1 x2 x3 => ⟨[(0, .v false [.fz kRule x0]), (1, .v false [.fnv (.pair kRule .unit) .bool x1]), (7, .v false [.int .i64 x2]), (8, .v false [.int .i64 x3])], [], []⟩) x.1 x.2.1 x.2.2.1 x.2.2.2.1, fun C n x => slices_IndexFunc_impl_Rule_impl_Rule.l2 k (fun y => C .ret ((fun y0 => ⟨[(4, .v false [.int .i64 y0])], [], []⟩) y.1)) (fun _ => C (.exit 0) ⟨[], [], []⟩) n x.1 x.2.1 x.2.2.1 x.2.2.2.1⟩)]
theorem slices_IndexFunc_impl_Rule_impl_Rule.loops (k : Nat) : LoopsOk slices_IndexFunc_impl_Rule_impl_Rule.E k slices_IndexFunc_impl_Rule_impl_Rule.hd (slices_IndexFunc_impl_Rule_impl_Rule.lps k) (loopsOf (Go.Proofs.Try.f292.body.getD .skip)) := ⟨⟨fun _ _ => rfl, fun _ _ _ => by kernel_rfl, fun _ => ⟨rfl, rfl⟩⟩, trivial⟩
theorem slices_IndexFunc_impl_Rule_impl_Rule.den (k : Nat) (x : Sig.In slices_IndexFunc_impl_Rule_impl_Rule.sg.ps) : denFn slices_IndexFunc_impl_Rule_impl_Rule.E k Go.Proofs.Try.f292 slices_IndexFunc_impl_Rule_impl_Rule.sg slices_IndexFunc_impl_Rule_impl_Rule.hd (runL k slices_IndexFunc_impl_Rule_impl_Rule.hd (slices_IndexFunc_impl_Rule_impl_Rule.lps k)) x = slices_IndexFunc_impl_Rule_impl_Rule.F k x := by kernel_rfl
theorem slices_IndexFunc_impl_Rule_impl_Rule.ok (k : Nat) : Contract Try.prog 292 slices_IndexFunc_impl_Rule_impl_Rule.sg (slices_IndexFunc_impl_Rule_impl_Rule.F k) := ok_of (E := slices_IndexFunc_impl_Rule_impl_Rule.E) (tysOk _ _) (eqsOk _) trivial Try.func292 rfl (by kernel_rfl) (slices_IndexFunc_impl_Rule_impl_Rule.loops k) (slices_IndexFunc_impl_Rule_impl_Rule.den k)
def slices_Index_int64_int64.sg : Sig := ⟨[.b (.sl (.int .i64)), .b (.int .i64)], [((.int .i64), .rd)]⟩
def slices_Index_int64_int64.E : Env := ⟨tys, bys, [], eqs⟩
def slices_Index_int64_int64.l2 {ρ : Type} (k : Nat) (c0 : (Int × Unit) → Option ρ) (c1 : Unit → Option ρ) : Nat → List Int → Int → Int → Int → Option ρ
  | 0 => fun _ _ _ _ => none
  | n + 1 => fun x0 x1 x2 x3 => 
    bif (decide ((x3 < x2))) then
    (bif (Go.Dn.inB x3 (((List.length x0) : Nat) : Int)) then
      (Go.Dn.share (List.getD x0 (Int.toNat x3) (0 : Int)) fun s0 =>
        bif (x1 == s0) then
        (c0 (x3, ()))
        else slices_Index_int64_int64.l2 k c0 c1 n x0 x1 x2 (IntKind.wrap .i64 (x3 + (1 : Int))))
      else none)
    else c1 (())
def slices_Index_int64_int64.F (k : Nat) (x : ((List Int) × (Int × Unit))) : Option ((Int × Unit) × Unit) :=
  slices_Index_int64_int64.l2 k (fun e1 =>
    some (e1, ())) (fun e2 =>
    some (((-(1 : Int)), ()), ())) k x.1 x.2.1 (((List.length x.1) : Nat) : Int) (0 : Int)
def slices_Index_int64_int64.hd : Hints := ⟨[(2, ⟨[0, 1, 7, 8], []⟩)], [(0, []), (1, [0, 1, 7, 8])], [4], [0, 1, 5, 7, 8], []⟩
def slices_Index_int64_int64.lps (k : Nat) : List (Nat × Lp slices_Index_int64_int64.sg.Out) := [(2, ⟨[.l (.int .i64), .i, .i, .i], fun x => (fun x0 x1 x2 x3 => ⟨[(0, .v false [.fz (.int .i64) x0]), (1, .v false [.int .i64 x1]), (7, .v false [.int .i64 x2]), (8, .v false [.int .i64 x3])], [], []⟩) x.1 x.2.1 x.2.2.1 x.2.2.2.1, fun C n x => slices_Index_int64_int64.l2 k (fun y => C .ret ((fun y0 => ⟨[(4, .v false [.int .i64 y0])], [], []⟩) y.1)) (fun _ => C (.exit 0) ⟨[], [], []⟩) n x.1 x.2.1 x.2.2.1 x.2.2.2.1⟩)]
theorem slices_Index_int64_int64.loops (k : Nat) : LoopsOk slices_Index_int64_int64.E k slices_Index_int64_int64.hd (slices_Index_int64_int64.lps k) (loopsOf (Go.Proofs.Try.f236.body.getD .skip)) := ⟨⟨fun _ _ => rfl, fun _ _ _ => by kernel_rfl, fun _ => ⟨rfl, rfl⟩⟩, trivial⟩
theorem slices_Index_int64_int64.den (k : Nat) (x : Sig.In slices_Index_int64_int64.sg.ps) : denFn slices_Index_int64_int64.E k Go.Proofs.Try.f236 slices_Index_int64_int64.sg slices_Index_int64_int64.hd (runL k slices_Index_int64_int64.hd (slices_Index_int64_int64.lps k)) x = slices_Index_int64_int64.F k x := by kernel_rfl
theorem slices_Index_int64_int64.ok (k : Nat) : Contract Try.prog 236 slices_Index_int64_int64.sg (slices_Index_int64_int64.F k) := ok_of (E := slices_Index_int64_int64.E) (tysOk _ _) (eqsOk _) trivial Try.func236 rfl (by kernel_rfl) (slices_Index_int64_int64.loops k) (slices_Index_int64_int64.den k)
def slices_Contains_int64_int64.sg : Sig := ⟨[.b (.sl (.int .i64)), .b (.int .i64)], [(.bool, .rd)]⟩
def slices_Contains_int64_int64.E : Env := ⟨tys, bys, [(236, ⟨slices_Index_int64_int64.sg, slices_Index_int64_int64.F⟩)], eqs⟩
def slices_Contains_int64_int64.F (k : Nat) (x : ((List Int) × (Int × Unit))) : Option ((Bool × Unit) × Unit) :=
  (slices_Index_int64_int64.F k x).bind fun y0 =>
  some (((decide ((y0.1.1 ≥ (0 : Int)))), ()), ())
def slices_Contains_int64_int64.hd : Hints := ⟨[], [], [4], [0, 1], []⟩
def slices_Contains_int64_int64.lps (k : Nat) : List (Nat × Lp slices_Contains_int64_int64.sg.Out) := []
theorem slices_Contains_int64_int64.loops (k : Nat) : LoopsOk slices_Contains_int64_int64.E k slices_Contains_int64_int64.hd (slices_Contains_int64_int64.lps k) (loopsOf (Go.Proofs.Try.f125.body.getD .skip)) := trivial
theorem slices_Contains_int64_int64.den (k : Nat) (x : Sig.In slices_Contains_int64_int64.sg.ps) : denFn slices_Contains_int64_int64.E k Go.Proofs.Try.f125 slices_Contains_int64_int64.sg slices_Contains_int64_int64.hd (runL k slices_Contains_int64_int64.hd (slices_Contains_int64_int64.lps k)) x = slices_Contains_int64_int64.F k x := by kernel_rfl
theorem slices_Contains_int64_int64.ok (k : Nat) : Contract Try.prog 125 slices_Contains_int64_int64.sg (slices_Contains_int64_int64.F k) := ok_of (E := slices_Contains_int64_int64.E) (tysOk _ _) (eqsOk _) ⟨slices_Index_int64_int64.ok k, trivial⟩ Try.func125 rfl (by kernel_rfl) (slices_Contains_int64_int64.loops k) (slices_Contains_int64_int64.den k)
def impl_Prefix_has.sg : Sig := ⟨[.b kPrefix, .b (.int .i64)], [(.bool, .rd)]⟩
def impl_Prefix_has.E : Env := ⟨tys, bys, [(116, ⟨impl_isAddr.sg, impl_isAddr.F⟩)], eqs⟩
def impl_Prefix_has.F (k : Nat) (x : ((Int × (Int × Unit)) × (Int × Unit))) : Option ((Bool × Unit) × Unit) :=
  (impl_isAddr.F k x.2).bind fun y0 =>
  bif y0.1.1 then
  (bif (decide (((IntKind.wrap .i64 ((16 : Int) - x.1.2.1)) < (0 : Int)))) then
    (none)
    else bif (decide (((IntKind.wrap .i64 ((16 : Int) - x.1.2.1)) < (0 : Int)))) then
      (none)
      else some ((((Go.Dn.shrV .i64 x.2.1 (IntKind.wrap .i64 ((16 : Int) - x.1.2.1))) == (Go.Dn.shrV .i64 x.1.1 (IntKind.wrap .i64 ((16 : Int) - x.1.2.1)))), ()), ()))
  else some ((false, ()), ())
def impl_Prefix_has.hd : Hints := ⟨[], [], [4], [0, 1, 2], [(1, [0, 1, 3, 7, 7, 23, 55, 127, 7, 263, 7, 1031, 3079, 7943, 16383, 32767, 65535])]⟩
def impl_Prefix_has.lps (k : Nat) : List (Nat × Lp impl_Prefix_has.sg.Out) := []
theorem impl_Prefix_has.loops (k : Nat) : LoopsOk impl_Prefix_has.E k impl_Prefix_has.hd (impl_Prefix_has.lps k) (loopsOf (Go.Proofs.Try.f322.body.getD .skip)) := trivial
theorem impl_Prefix_has.den (k : Nat) (x : Sig.In impl_Prefix_has.sg.ps) : denFn impl_Prefix_has.E k Go.Proofs.Try.f322 impl_Prefix_has.sg impl_Prefix_has.hd (runL k impl_Prefix_has.hd (impl_Prefix_has.lps k)) x = impl_Prefix_has.F k x := by kernel_rfl
theorem impl_Prefix_has.ok (k : Nat) : Contract Try.prog 322 impl_Prefix_has.sg (impl_Prefix_has.F k) := ok_of (E := impl_Prefix_has.E) (tysOk _ _) (eqsOk _) ⟨impl_isAddr.ok k, trivial⟩ Try.func322 rfl (by kernel_rfl) (impl_Prefix_has.loops k) (impl_Prefix_has.den k)
def impl_IsWithin.sg : Sig := ⟨[.b kPrefix, .b kPrefix], [(.bool, .rd)]⟩
def impl_IsWithin.E : Env := ⟨tys, bys, [(89, ⟨impl_PrefixFault.sg, impl_PrefixFault.F⟩), (322, ⟨impl_Prefix_has.sg, impl_Prefix_has.F⟩)], eqs⟩
def impl_IsWithin.F (k : Nat) (x : ((Int × (Int × Unit)) × ((Int × (Int × Unit)) × Unit))) : Option ((Bool × Unit) × Unit) :=
  (impl_PrefixFault.F k (x.1, ())).bind fun y0 =>
  bif (y0.1.1 == (0 : Int)) then
  ((impl_PrefixFault.F k x.2).bind fun y1 =>
    bif (y1.1.1 == (0 : Int)) then
    (bif (decide ((x.1.2.1 ≥ x.2.1.2.1))) then
      ((impl_Prefix_has.F k (x.2.1, x.1.1, ())).bind fun y2 =>
        some y2)
      else some ((false, ()), ()))
    else some ((false, ()), ()))
  else some ((false, ()), ())
def impl_IsWithin.hd : Hints := ⟨[], [], [4], [0, 1, 2, 3], []⟩
def impl_IsWithin.lps (k : Nat) : List (Nat × Lp impl_IsWithin.sg.Out) := []
theorem impl_IsWithin.loops (k : Nat) : LoopsOk impl_IsWithin.E k impl_IsWithin.hd (impl_IsWithin.lps k) (loopsOf (Go.Proofs.Try.f313.body.getD .skip)) := trivial
theorem impl_IsWithin.den (k : Nat) (x : Sig.In impl_IsWithin.sg.ps) : denFn impl_IsWithin.E k Go.Proofs.Try.f313 impl_IsWithin.sg impl_IsWithin.hd (runL k impl_IsWithin.hd (impl_IsWithin.lps k)) x = impl_IsWithin.F k x := by kernel_rfl
theorem impl_IsWithin.ok (k : Nat) : Contract Try.prog 313 impl_IsWithin.sg (impl_IsWithin.F k) := ok_of (E := impl_IsWithin.E) (tysOk _ _) (eqsOk _) ⟨impl_PrefixFault.ok k, impl_Prefix_has.ok k, trivial⟩ Try.func313 rfl (by kernel_rfl) (impl_IsWithin.loops k) (impl_IsWithin.den k)
def impl_Rule_matches.sg : Sig := ⟨[.b kRule, .b kPrefix, .b kAttrs], [(.bool, .rd)]⟩
def impl_Rule_matches.E : Env := ⟨tys, bys, [(102, ⟨impl_in.sg, impl_in.F⟩), (125, ⟨slices_Contains_int64_int64.sg, slices_Contains_int64_int64.F⟩), (313, ⟨impl_IsWithin.sg, impl_IsWithin.F⟩)], eqs⟩
def impl_Rule_matches.F (k : Nat) (x : (((Int × (Int × Unit)) × (Int × (Int × (Int × (Bool × (Int × (Int × Unit))))))) × ((Int × (Int × Unit)) × ((Int × ((List Int) × (Int × (Int × (Int × Unit))))) × Unit)))) : Option ((Bool × Unit) × Unit) :=
  (impl_IsWithin.F k (x.2.1, x.1.1, ())).bind fun y0 =>
  bif y0.1.1 then
  ((impl_in.F k (x.2.1.2.1, x.1.2.1, x.1.2.2.1, ())).bind fun y1 =>
    bif y1.1.1 then
    (bif (x.1.2.2.2.1 == (0 : Int)) then
      (some ((true, ()), ()))
      else (slices_Contains_int64_int64.F k (x.2.2.1.2.1, x.1.2.2.2.1, ())).bind fun y2 =>
        some y2)
    else some ((false, ()), ()))
  else some ((false, ()), ())
def impl_Rule_matches.hd : Hints := ⟨[], [], [6], [0, 1, 2, 3, 4, 5], []⟩
def impl_Rule_matches.lps (k : Nat) : List (Nat × Lp impl_Rule_matches.sg.Out) := []
theorem impl_Rule_matches.loops (k : Nat) : LoopsOk impl_Rule_matches.E k impl_Rule_matches.hd (impl_Rule_matches.lps k) (loopsOf (Go.Proofs.Try.f294.body.getD .skip)) := trivial
theorem impl_Rule_matches.den (k : Nat) (x : Sig.In impl_Rule_matches.sg.ps) : denFn impl_Rule_matches.E k Go.Proofs.Try.f294 impl_Rule_matches.sg impl_Rule_matches.hd (runL k impl_Rule_matches.hd (impl_Rule_matches.lps k)) x = impl_Rule_matches.F k x := by kernel_rfl
theorem impl_Rule_matches.ok (k : Nat) : Contract Try.prog 294 impl_Rule_matches.sg (impl_Rule_matches.F k) := ok_of (E := impl_Rule_matches.E) (tysOk _ _) (eqsOk _) ⟨impl_in.ok k, slices_Contains_int64_int64.ok k, impl_IsWithin.ok k, trivial⟩ Try.func294 rfl (by kernel_rfl) (impl_Rule_matches.loops k) (impl_Rule_matches.den k)
def impl_apply_1.sg : Sig := ⟨[.b kRule, .r kPrefix, .r kAttrs], [(.bool, .rd)]⟩
def impl_apply_1.E : Env := ⟨tys, bys, [(294, ⟨impl_Rule_matches.sg, impl_Rule_matches.F⟩)], eqs⟩
def impl_apply_1.F (k : Nat) (x : (((Int × (Int × Unit)) × (Int × (Int × (Int × (Bool × (Int × (Int × Unit))))))) × ((Int × (Int × Unit)) × ((Int × ((List Int) × (Int × (Int × (Int × Unit))))) × Unit)))) : Option ((Bool × Unit) × Unit) :=
  (impl_Rule_matches.F k x).bind fun y0 =>
  some y0
def impl_apply_1.hd : Hints := ⟨[], [], [4], [0, 1, 2, 3], []⟩
def impl_apply_1.lps (k : Nat) : List (Nat × Lp impl_apply_1.sg.Out) := []
theorem impl_apply_1.loops (k : Nat) : LoopsOk impl_apply_1.E k impl_apply_1.hd (impl_apply_1.lps k) (loopsOf (Go.Proofs.Try.f293.body.getD .skip)) := trivial
theorem impl_apply_1.den (k : Nat) (x : Sig.In impl_apply_1.sg.ps) : denFn impl_apply_1.E k Go.Proofs.Try.f293 impl_apply_1.sg impl_apply_1.hd (runL k impl_apply_1.hd (impl_apply_1.lps k)) x = impl_apply_1.F k x := by kernel_rfl
theorem impl_apply_1.ok (k : Nat) : Contract Try.prog 293 impl_apply_1.sg (impl_apply_1.F k) := ok_of (E := impl_apply_1.E) (tysOk _ _) (eqsOk _) ⟨impl_Rule_matches.ok k, trivial⟩ Try.func293 rfl (by kernel_rfl) (impl_apply_1.loops k) (impl_apply_1.den k)
def impl_size_int64.sg : Sig := ⟨[.b (.sl (.int .i64))], [((.int .i64), .rd)]⟩
def impl_size_int64.E : Env := ⟨tys, bys, [], eqs⟩
def impl_size_int64.F (k : Nat) (x : ((List Int) × Unit)) : Option ((Int × Unit) × Unit) :=
  some (((((List.length x.1) : Nat) : Int), ()), ())
def impl_size_int64.hd : Hints := ⟨[], [], [2], [0], []⟩
def impl_size_int64.lps (k : Nat) : List (Nat × Lp impl_size_int64.sg.Out) := []
theorem impl_size_int64.loops (k : Nat) : LoopsOk impl_size_int64.E k impl_size_int64.hd (impl_size_int64.lps k) (loopsOf (Go.Proofs.Try.f295.body.getD .skip)) := trivial
theorem impl_size_int64.den (k : Nat) (x : Sig.In impl_size_int64.sg.ps) : denFn impl_size_int64.E k Go.Proofs.Try.f295 impl_size_int64.sg impl_size_int64.hd (runL k impl_size_int64.hd (impl_size_int64.lps k)) x = impl_size_int64.F k x := by kernel_rfl
theorem impl_size_int64.ok (k : Nat) : Contract Try.prog 295 impl_size_int64.sg (impl_size_int64.F k) := ok_of (E := impl_size_int64.E) (tysOk _ _) (eqsOk _) trivial Try.func295 rfl (by kernel_rfl) (impl_size_int64.loops k) (impl_size_int64.den k)
def math_bits_Mul32.sg : Sig := ⟨[.b (.int .u32), .b (.int .u32)], [((.int .u32), .rd), ((.int .u32), .rd)]⟩
def math_bits_Mul32.E : Env := ⟨tys, bys, [], eqs⟩
def math_bits_Mul32.F (k : Nat) (x : (Int × (Int × Unit))) : Option ((Int × (Int × Unit)) × Unit) :=
  some (((IntKind.wrap .u32 (Go.Dn.shrV .u64 (IntKind.wrap .u64 ((IntKind.wrap .u64 x.1) * (IntKind.wrap .u64 x.2.1))) (32 : Int))), (IntKind.wrap .u32 (IntKind.wrap .u64 ((IntKind.wrap .u64 x.1) * (IntKind.wrap .u64 x.2.1)))), ()), ())
def math_bits_Mul32.hd : Hints := ⟨[], [], [4, 5], [0, 1, 6], []⟩
def math_bits_Mul32.lps (k : Nat) : List (Nat × Lp math_bits_Mul32.sg.Out) := []
theorem math_bits_Mul32.loops (k : Nat) : LoopsOk math_bits_Mul32.E k math_bits_Mul32.hd (math_bits_Mul32.lps k) (loopsOf (Go.Proofs.Try.f323.body.getD .skip)) := trivial
theorem math_bits_Mul32.den (k : Nat) (x : Sig.In math_bits_Mul32.sg.ps) : denFn math_bits_Mul32.E k Go.Proofs.Try.f323 math_bits_Mul32.sg math_bits_Mul32.hd (runL k math_bits_Mul32.hd (math_bits_Mul32.lps k)) x = math_bits_Mul32.F k x := by kernel_rfl
theorem math_bits_Mul32.ok (k : Nat) : Contract Try.prog 323 math_bits_Mul32.sg (math_bits_Mul32.F k) := ok_of (E := math_bits_Mul32.E) (tysOk _ _) (eqsOk _) trivial Try.func323 rfl (by kernel_rfl) (math_bits_Mul32.loops k) (math_bits_Mul32.den k)
def math_bits_Mul64.sg : Sig := ⟨[.b (.int .u64), .b (.int .u64)], [((.int .u64), .rd), ((.int .u64), .rd)]⟩
def math_bits_Mul64.E : Env := ⟨tys, bys, [], eqs⟩
def math_bits_Mul64.F (k : Nat) (x : (Int × (Int × Unit))) : Option ((Int × (Int × Unit)) × Unit) :=
  some (((IntKind.wrap .u64 ((IntKind.wrap .u64 ((IntKind.wrap .u64 ((Go.Dn.shrV .u64 x.1 (32 : Int)) * (Go.Dn.shrV .u64 x.2.1 (32 : Int)))) + (Go.Dn.shrV .u64 (IntKind.wrap .u64 ((IntKind.wrap .u64 ((Go.Dn.shrV .u64 x.1 (32 : Int)) * (Go.Dn.andV .u64 x.2.1 (4294967295 : Int)))) + (Go.Dn.shrV .u64 (IntKind.wrap .u64 ((Go.Dn.andV .u64 x.1 (4294967295 : Int)) * (Go.Dn.andV .u64 x.2.1 (4294967295 : Int)))) (32 : Int)))) (32 : Int)))) + (Go.Dn.shrV .u64 (IntKind.wrap .u64 ((Go.Dn.andV .u64 (IntKind.wrap .u64 ((IntKind.wrap .u64 ((Go.Dn.shrV .u64 x.1 (32 : Int)) * (Go.Dn.andV .u64 x.2.1 (4294967295 : Int)))) + (Go.Dn.shrV .u64 (IntKind.wrap .u64 ((Go.Dn.andV .u64 x.1 (4294967295 : Int)) * (Go.Dn.andV .u64 x.2.1 (4294967295 : Int)))) (32 : Int)))) (4294967295 : Int)) + (IntKind.wrap .u64 ((Go.Dn.andV .u64 x.1 (4294967295 : Int)) * (Go.Dn.shrV .u64 x.2.1 (32 : Int)))))) (32 : Int)))), (IntKind.wrap .u64 (x.1 * x.2.1)), ()), ())
def math_bits_Mul64.hd : Hints := ⟨[], [], [4, 5], [0, 1, 4, 6, 7, 8, 9, 10, 11, 12, 13], []⟩
def math_bits_Mul64.lps (k : Nat) : List (Nat × Lp math_bits_Mul64.sg.Out) := []
theorem math_bits_Mul64.loops (k : Nat) : LoopsOk math_bits_Mul64.E k math_bits_Mul64.hd (math_bits_Mul64.lps k) (loopsOf (Go.Proofs.Try.f324.body.getD .skip)) := trivial
theorem math_bits_Mul64.den (k : Nat) (x : Sig.In math_bits_Mul64.sg.ps) : denFn math_bits_Mul64.E k Go.Proofs.Try.f324 math_bits_Mul64.sg math_bits_Mul64.hd (runL k math_bits_Mul64.hd (math_bits_Mul64.lps k)) x = math_bits_Mul64.F k x := by kernel_rfl
theorem math_bits_Mul64.ok (k : Nat) : Contract Try.prog 324 math_bits_Mul64.sg (math_bits_Mul64.F k) := ok_of (E := math_bits_Mul64.E) (tysOk _ _) (eqsOk _) trivial Try.func324 rfl (by kernel_rfl) (math_bits_Mul64.loops k) (math_bits_Mul64.den k)
def math_bits_Mul.sg : Sig := ⟨[.b (.int .u64), .b (.int .u64)], [((.int .u64), .rd), ((.int .u64), .rd)]⟩
def math_bits_Mul.E : Env := ⟨tys, bys, [(323, ⟨math_bits_Mul32.sg, math_bits_Mul32.F⟩), (324, ⟨math_bits_Mul64.sg, math_bits_Mul64.F⟩)], eqs⟩
def math_bits_Mul.F (k : Nat) (x : (Int × (Int × Unit))) : Option ((Int × (Int × Unit)) × Unit) :=
  (math_bits_Mul64.F k x).bind fun y0 =>
  some y0
def math_bits_Mul.hd : Hints := ⟨[], [], [4, 5], [0, 1, 6, 7, 8, 9], []⟩
def math_bits_Mul.lps (k : Nat) : List (Nat × Lp math_bits_Mul.sg.Out) := []
theorem math_bits_Mul.loops (k : Nat) : LoopsOk math_bits_Mul.E k math_bits_Mul.hd (math_bits_Mul.lps k) (loopsOf (Go.Proofs.Try.f314.body.getD .skip)) := trivial
theorem math_bits_Mul.den (k : Nat) (x : Sig.In math_bits_Mul.sg.ps) : denFn math_bits_Mul.E k Go.Proofs.Try.f314 math_bits_Mul.sg math_bits_Mul.hd (runL k math_bits_Mul.hd (math_bits_Mul.lps k)) x = math_bits_Mul.F k x := by kernel_rfl
theorem math_bits_Mul.ok (k : Nat) : Contract Try.prog 314 math_bits_Mul.sg (math_bits_Mul.F k) := ok_of (E := math_bits_Mul.E) (tysOk _ _) (eqsOk _) ⟨math_bits_Mul32.ok k, math_bits_Mul64.ok k, trivial⟩ Try.func314 rfl (by kernel_rfl) (math_bits_Mul.loops k) (math_bits_Mul.den k)
def slices_Repeat_int64_int64.sg : Sig := ⟨[.b (.sl (.int .i64)), .b (.int .i64)], [((.sl (.int .i64)), .dp)]⟩
def slices_Repeat_int64_int64.E : Env := ⟨tys, bys, [(314, ⟨math_bits_Mul.sg, math_bits_Mul.F⟩)], eqs⟩
def slices_Repeat_int64_int64.l8 {ρ : Type} (k : Nat) (c0 : (List Int × Unit) → Option ρ) : Nat → Int → List Int → Option ρ
  | 0 => fun _ _ => none
  | n + 1 => fun x0 x1 => 
    bif (decide ((x0 < (((List.length x1) : Nat) : Int)))) then
    (bif (decide (((((List.length x1) : Nat) : Int) ≤ (((List.length x1) : Nat) : Int)))) then
      (bif (decide (((0 : Int) ≤ x0))) then
        (bif (decide ((x0 ≤ (((List.length x1) : Nat) : Int)))) then
          (bif (decide (((0 : Int) ≤ x0))) then
            (bif (decide ((x0 ≤ (((List.length x1) : Nat) : Int)))) then
              (bif (decide (((0 : Int) ≤ x0))) then
                (Go.Dn.share (Go.Dn.spliceL x1 (Int.toNat x0) (List.take (Min.min (List.length (Go.Dn.cutL x1 (0 : Int) (x0 - (0 : Int)))) (Int.toNat ((((List.length x1) : Nat) : Int) - x0))) (Go.Dn.cutL x1 (0 : Int) (x0 - (0 : Int))))) fun s2 =>
                  slices_Repeat_int64_int64.l8 k c0 n (IntKind.wrap .i64 (x0 + (((Min.min (List.length (Go.Dn.cutL x1 (0 : Int) (x0 - (0 : Int)))) (Int.toNat ((((List.length x1) : Nat) : Int) - x0))) : Nat) : Int))) s2)
                else none)
              else none)
            else none)
          else none)
        else none)
      else none)
    else c0 (x1, ())
def slices_Repeat_int64_int64.F (k : Nat) (x : ((List Int) × (Int × Unit))) : Option (((List Int) × Unit) × Unit) :=
  bif (decide ((x.2.1 < (0 : Int)))) then
  (none)
  else (math_bits_Mul.F k ((IntKind.wrap .u64 (((List.length x.1) : Nat) : Int)), (IntKind.wrap .u64 x.2.1), ())).bind fun y0 =>
    bif (decide ((y0.1.1 > (0 : Int)))) then
    (none)
    else bif (decide ((y0.1.2.1 > (9223372036854775807 : Int)))) then
      (none)
      else bif (decide (((0 : Int) ≤ (IntKind.wrap .i64 y0.1.2.1)))) then
        (bif (decide (((IntKind.wrap .i64 y0.1.2.1) ≤ (IntKind.wrap .i64 y0.1.2.1)))) then
          (bif (Go.Dn.roomy (Int.toNat (IntKind.wrap .i64 y0.1.2.1)) 8) then
            (Go.Dn.share (Go.Dn.spliceL (List.replicate (Int.toNat (IntKind.wrap .i64 y0.1.2.1)) (0 : Int)) (Int.toNat (0 : Int)) (List.take (Min.min (List.length x.1) (Int.toNat (((List.length (List.replicate (Int.toNat (IntKind.wrap .i64 y0.1.2.1)) (0 : Int))) : Nat) : Int))) x.1)) fun s1 =>
              slices_Repeat_int64_int64.l8 k (fun e3 =>
                some (e3, ())) k (((Min.min (List.length x.1) (Int.toNat (((List.length (List.replicate (Int.toNat (IntKind.wrap .i64 y0.1.2.1)) (0 : Int))) : Nat) : Int))) : Nat) : Int) s1)
            else none)
          else none)
        else none
def slices_Repeat_int64_int64.hd : Hints := ⟨[(8, ⟨[7, 8], []⟩)], [(0, [7]), (1, [7, 8])], [4], [0, 1, 5, 6, 7, 8], [(9, [0, 0, 0, 6, 0, 0, 48, 126, 255, 511])]⟩
def slices_Repeat_int64_int64.lps (k : Nat) : List (Nat × Lp slices_Repeat_int64_int64.sg.Out) := [(8, ⟨[.i, .l (.int .i64)], fun x => (fun x0 x1 => ⟨[(7, .v false [.arr 0]), (8, .v false [.int .i64 x0])], [(0, .arr (.int .i64) true false x1)], []⟩) x.1 x.2.1, fun C n x => slices_Repeat_int64_int64.l8 k (fun y => C (.exit 0) ((fun y0 => ⟨[(7, .v false [.arr 0])], [(0, .arr (.int .i64) true false y0)], []⟩) y.1)) n x.1 x.2.1⟩)]
theorem slices_Repeat_int64_int64.loops (k : Nat) : LoopsOk slices_Repeat_int64_int64.E k slices_Repeat_int64_int64.hd (slices_Repeat_int64_int64.lps k) (loopsOf (Go.Proofs.Try.f296.body.getD .skip)) := ⟨⟨fun _ _ => rfl, fun _ _ _ => by kernel_rfl, fun _ => ⟨rfl, rfl⟩⟩, trivial⟩
theorem slices_Repeat_int64_int64.den (k : Nat) (x : Sig.In slices_Repeat_int64_int64.sg.ps) : denFn slices_Repeat_int64_int64.E k Go.Proofs.Try.f296 slices_Repeat_int64_int64.sg slices_Repeat_int64_int64.hd (runL k slices_Repeat_int64_int64.hd (slices_Repeat_int64_int64.lps k)) x = slices_Repeat_int64_int64.F k x := by kernel_rfl
theorem slices_Repeat_int64_int64.ok (k : Nat) : Contract Try.prog 296 slices_Repeat_int64_int64.sg (slices_Repeat_int64_int64.F k) := ok_of (E := slices_Repeat_int64_int64.E) (tysOk _ _) (eqsOk _) ⟨math_bits_Mul.ok k, trivial⟩ Try.func296 rfl (by kernel_rfl) (slices_Repeat_int64_int64.loops k) (slices_Repeat_int64_int64.den k)
def impl_apply.sg : Sig := ⟨[.b (.sl kRule), .b (.int .i64), .b kPrefix, .b kAttrs], [(kAttrsResult, .rd)]⟩
def impl_apply.E : Env := ⟨tys, bys, [(87, ⟨impl_Attrs_copied.sg, impl_Attrs_copied.F⟩), (292, ⟨slices_IndexFunc_impl_Rule_impl_Rule.sg, slices_IndexFunc_impl_Rule_impl_Rule.F⟩), (293, ⟨impl_apply_1.sg, impl_apply_1.F⟩), (295, ⟨impl_size_int64.sg, impl_size_int64.F⟩), (296, ⟨slices_Repeat_int64_int64.sg, slices_Repeat_int64_int64.F⟩)], eqs⟩
def impl_apply.F (k : Nat) (x : ((List ((Int × (Int × Unit)) × (Int × (Int × (Int × (Bool × (Int × (Int × Unit)))))))) × (Int × ((Int × (Int × Unit)) × ((Int × ((List Int) × (Int × (Int × (Int × Unit))))) × Unit))))) : Option (((Int × (Int × ((Int × ((List Int) × (Int × (Int × (Int × Unit))))) × Unit))) × Unit) × Unit) :=
  (slices_IndexFunc_impl_Rule_impl_Rule.F k (x.1, (fun q => (Option.bind (impl_apply_1.F k (q.1, x.2.2)) (fun y => (Option.some y.1.1)))), ())).bind fun y0 =>
  bif (decide ((y0.1.1 < (0 : Int)))) then
  ((impl_Attrs_copied.F k x.2.2.2).bind fun y1 =>
    some ((((0 : Int), (-(1 : Int)), y1.1), ()), ()))
  else bif (Go.Dn.inB y0.1.1 (((List.length x.1) : Nat) : Int)) then
    (Go.Dn.share (List.getD x.1 (Int.toNat y0.1.1) (((0 : Int), ((0 : Int), ())), ((0 : Int), ((0 : Int), ((0 : Int), (false, ((0 : Int), ((0 : Int), ())))))))) fun s2 =>
      bif s2.2.2.2.2.1 then
      (some ((((4 : Int), y0.1.1, ((0 : Int), ([] : List Int), (0 : Int), (0 : Int), (0 : Int), ()), ()), ()), ()))
      else (impl_size_int64.F k (x.2.2.2.1.2.1, ())).bind fun y3 =>
        bif (decide (((IntKind.wrap .i64 (y3.1.1 + s2.2.2.2.2.2.2.1)) > (6 : Int)))) then
        (some ((((2 : Int), y0.1.1, ((0 : Int), ([] : List Int), (0 : Int), (0 : Int), (0 : Int), ()), ()), ()), ()))
        else bif (decide ((s2.2.2.2.2.2.1 ≥ (0 : Int)))) then
          ((slices_Repeat_int64_int64.F k ([x.2.1], s2.2.2.2.2.2.2)).bind fun y4 =>
            bif (Go.Dn.roomy ((List.length y4.1.1) + (List.length x.2.2.2.1.2.1)) 8) then
            (Go.Dn.share (y4.1.1 ++ x.2.2.2.1.2.1) fun s5 =>
              some ((((0 : Int), y0.1.1, (x.2.2.2.1.1, s5, x.2.2.2.1.2.2.1, x.2.2.2.1.2.2.2.1, s2.2.2.2.2.2.1, ()), ()), ()), ()))
            else none)
          else (slices_Repeat_int64_int64.F k ([x.2.1], s2.2.2.2.2.2.2)).bind fun y6 =>
            bif (Go.Dn.roomy ((List.length y6.1.1) + (List.length x.2.2.2.1.2.1)) 8) then
            (Go.Dn.share (y6.1.1 ++ x.2.2.2.1.2.1) fun s7 =>
              some ((((0 : Int), y0.1.1, (x.2.2.2.1.1, s7, x.2.2.2.1.2.2), ()), ()), ()))
            else none)
    else none
def impl_apply.hd : Hints := ⟨[], [(0, [1, 7, 8, 9, 10])], [8], [0, 1, 2, 3, 6, 7, 8, 9, 10], [(7, [0, 1, 3, 0, 8, 31, 63, 127]), (11, [0, 1, 0, 4, 15, 0, 32, 127, 255, 511])]⟩
def impl_apply.lps (k : Nat) : List (Nat × Lp impl_apply.sg.Out) := []
theorem impl_apply.loops (k : Nat) : LoopsOk impl_apply.E k impl_apply.hd (impl_apply.lps k) (loopsOf (Go.Proofs.Try.f226.body.getD .skip)) := trivial
theorem impl_apply.den (k : Nat) (x : Sig.In impl_apply.sg.ps) : denFn impl_apply.E k Go.Proofs.Try.f226 impl_apply.sg impl_apply.hd (runL k impl_apply.hd (impl_apply.lps k)) x = impl_apply.F k x := by kernel_rfl
theorem impl_apply.ok (k : Nat) : Contract Try.prog 226 impl_apply.sg (impl_apply.F k) := ok_of (E := impl_apply.E) (tysOk _ _) (eqsOk _) ⟨impl_Attrs_copied.ok k, slices_IndexFunc_impl_Rule_impl_Rule.ok k, impl_apply_1.ok k, impl_size_int64.ok k, slices_Repeat_int64_int64.ok k, trivial⟩ Try.func226 rfl (by kernel_rfl) (impl_apply.loops k) (impl_apply.den k)
def impl_exported.sg : Sig := ⟨[.b kAttrs, .b (.int .i64), .b (.int .i64)], [(kAttrs, .dp)]⟩
def impl_exported.E : Env := ⟨tys, bys, [], eqs⟩
def impl_exported.F (k : Nat) (x : ((Int × ((List Int) × (Int × (Int × (Int × Unit))))) × (Int × (Int × Unit)))) : Option (((Int × ((List Int) × (Int × (Int × (Int × Unit))))) × Unit) × Unit) :=
  bif (Go.Dn.roomy ((List.length [x.2.1]) + (List.length x.1.2.1)) 8) then
  (Go.Dn.share ([x.2.1] ++ x.1.2.1) fun s0 =>
    some (((x.1.1, s0, x.2.2.1, (0 : Int), (0 : Int), ()), ()), ()))
  else none
def impl_exported.hd : Hints := ⟨[], [], [6], [0, 1, 2, 3, 6], [(1, [0, 1, 0, 4, 0, 16, 60, 0, 255, 511])]⟩
def impl_exported.lps (k : Nat) : List (Nat × Lp impl_exported.sg.Out) := []
theorem impl_exported.loops (k : Nat) : LoopsOk impl_exported.E k impl_exported.hd (impl_exported.lps k) (loopsOf (Go.Proofs.Try.f227.body.getD .skip)) := trivial
theorem impl_exported.den (k : Nat) (x : Sig.In impl_exported.sg.ps) : denFn impl_exported.E k Go.Proofs.Try.f227 impl_exported.sg impl_exported.hd (runL k impl_exported.hd (impl_exported.lps k)) x = impl_exported.F k x := by kernel_rfl
theorem impl_exported.ok (k : Nat) : Contract Try.prog 227 impl_exported.sg (impl_exported.F k) := ok_of (E := impl_exported.E) (tysOk _ _) (eqsOk _) trivial Try.func227 rfl (by kernel_rfl) (impl_exported.loops k) (impl_exported.den k)
def impl_exportTo.sg : Sig := ⟨[.b (.sl kRoute), .b (.int .i64), .b (.sl kRule), .b (.int .i64), .b (.int .i64)], [((.sl kTold), .dp)]⟩
def impl_exportTo.E : Env := ⟨tys, bys, [(124, ⟨impl_bestOfAll.sg, impl_bestOfAll.F⟩), (226, ⟨impl_apply.sg, impl_apply.F⟩), (227, ⟨impl_exported.sg, impl_exported.F⟩)], eqs⟩
def impl_exportTo.l3 {ρ : Type} (k : Nat) (c0 : (List ((Int × (Int × Unit)) × ((Int × ((List Int) × (Int × (Int × (Int × Unit))))) × Unit)) × Unit) → Option ρ) : Nat → Int → List ((Int × (Int × Unit)) × (Int × (Int × (Int × (Bool × (Int × (Int × Unit))))))) → Int → Int → List (Int × ((Int × (Int × Unit)) × ((Int × ((List Int) × (Int × (Int × (Int × Unit))))) × Unit))) → Int → Int → List ((Int × (Int × Unit)) × ((Int × ((List Int) × (Int × (Int × (Int × Unit))))) × Unit)) → Option ρ
  | 0 => fun _ _ _ _ _ _ _ _ => none
  | n + 1 => fun x0 x1 x2 x3 x4 x5 x6 x7 => 
    bif (decide ((x6 < x5))) then
    (bif (Go.Dn.inB x6 (((List.length x4) : Nat) : Int)) then
      (Go.Dn.share (List.getD x4 (Int.toNat x6) ((0 : Int), (((0 : Int), ((0 : Int), ())), (((0 : Int), (([] : List Int), ((0 : Int), ((0 : Int), ((0 : Int), ()))))), ())))) fun s1 =>
        bif (s1.1 == x0) then
        (impl_exportTo.l3 k c0 n x0 x1 x2 x3 x4 x5 (IntKind.wrap .i64 (x6 + (1 : Int))) x7)
        else (impl_apply.F k (x1, x2, s1.2)).bind fun y2 =>
          bif (y2.1.1.1 == (0 : Int)) then
          (bif (decide (((((List.length y2.1.1.2.2.1.2.1) : Nat) : Int) < (6 : Int)))) then
            ((impl_exported.F k (y2.1.1.2.2.1, x2, x3, ())).bind fun y3 =>
              bif (Go.Dn.roomy ((List.length x7) + (List.length [(s1.2.1, y3.1)])) 72) then
              (Go.Dn.share (x7 ++ [(s1.2.1, y3.1)]) fun s4 =>
                impl_exportTo.l3 k c0 n x0 x1 x2 x3 x4 x5 (IntKind.wrap .i64 (x6 + (1 : Int))) s4)
              else none)
            else impl_exportTo.l3 k c0 n x0 x1 x2 x3 x4 x5 (IntKind.wrap .i64 (x6 + (1 : Int))) x7)
          else impl_exportTo.l3 k c0 n x0 x1 x2 x3 x4 x5 (IntKind.wrap .i64 (x6 + (1 : Int))) x7)
      else none)
    else c0 (x7, ())
def impl_exportTo.F (k : Nat) (x : ((List (Int × ((Int × (Int × Unit)) × ((Int × ((List Int) × (Int × (Int × (Int × Unit))))) × Unit)))) × (Int × ((List ((Int × (Int × Unit)) × (Int × (Int × (Int × (Bool × (Int × (Int × Unit)))))))) × (Int × (Int × Unit)))))) : Option (((List ((Int × (Int × Unit)) × ((Int × ((List Int) × (Int × (Int × (Int × Unit))))) × Unit))) × Unit) × Unit) :=
  (impl_bestOfAll.F k (x.1, ())).bind fun y0 =>
  impl_exportTo.l3 k (fun e5 =>
    some (e5, ())) k x.2.1 x.2.2.1 x.2.2.2.1 x.2.2.2.2.1 y0.1.1 (((List.length y0.1.1) : Nat) : Int) (0 : Int) ([] : List ((Int × (Int × Unit)) × ((Int × ((List Int) × (Int × (Int × (Int × Unit))))) × Unit)))
def impl_exportTo.hd : Hints := ⟨[(3, ⟨[1, 2, 3, 4, 11, 17, 18, 19], []⟩)], [(0, [11]), (1, [1, 2, 3, 4, 11, 17, 18, 19])], [10], [0, 1, 2, 3, 4, 11, 13, 14, 17, 18, 19], [(8, [0, 0, 2, 0, 8, 0, 0, 120, 254, 510, 1023, 2047])]⟩
def impl_exportTo.lps (k : Nat) : List (Nat × Lp impl_exportTo.sg.Out) := [(3, ⟨[.i, .l kRule, .i, .i, .l kRoute, .i, .i, .l kTold], fun x => (fun x0 x1 x2 x3 x4 x5 x6 x7 => ⟨[(1, .v false [.int .i64 x0]), (2, .v false [.fz kRule x1]), (3, .v false [.int .i64 x2]), (4, .v false [.int .i64 x3]), (11, .v false [.arr 0]), (17, .v false [.fz kRoute x4]), (18, .v false [.int .i64 x5]), (19, .v false [.int .i64 x6])], [(0, .arr kTold true false x7)], []⟩) x.1 x.2.1 x.2.2.1 x.2.2.2.1 x.2.2.2.2.1 x.2.2.2.2.2.1 x.2.2.2.2.2.2.1 x.2.2.2.2.2.2.2.1, fun C n x => impl_exportTo.l3 k (fun y => C (.exit 0) ((fun y0 => ⟨[(11, .v false [.arr 0])], [(0, .arr kTold true false y0)], []⟩) y.1)) n x.1 x.2.1 x.2.2.1 x.2.2.2.1 x.2.2.2.2.1 x.2.2.2.2.2.1 x.2.2.2.2.2.2.1 x.2.2.2.2.2.2.2.1⟩)]
theorem impl_exportTo.loops (k : Nat) : LoopsOk impl_exportTo.E k impl_exportTo.hd (impl_exportTo.lps k) (loopsOf (Go.Proofs.Try.f117.body.getD .skip)) := ⟨⟨fun _ _ => rfl, fun _ _ _ => by kernel_rfl, fun _ => ⟨rfl, rfl⟩⟩, trivial⟩
theorem impl_exportTo.den (k : Nat) (x : Sig.In impl_exportTo.sg.ps) : denFn impl_exportTo.E k Go.Proofs.Try.f117 impl_exportTo.sg impl_exportTo.hd (runL k impl_exportTo.hd (impl_exportTo.lps k)) x = impl_exportTo.F k x := by kernel_rfl
theorem impl_exportTo.ok (k : Nat) : Contract Try.prog 117 impl_exportTo.sg (impl_exportTo.F k) := ok_of (E := impl_exportTo.E) (tysOk _ _) (eqsOk _) ⟨impl_bestOfAll.ok k, impl_apply.ok k, impl_exported.ok k, trivial⟩ Try.func117 rfl (by kernel_rfl) (impl_exportTo.loops k) (impl_exportTo.den k)
def impl_ExportTo.sg : Sig := ⟨[.b (.sl kRoute), .b (.int .i64), .b (.sl kRule), .b (.int .i64), .b (.int .i64)], [(kToldResult, .dp)]⟩
def impl_ExportTo.E : Env := ⟨tys, bys, [(112, ⟨impl_RibFault.sg, impl_RibFault.F⟩), (113, ⟨impl_isPeer.sg, impl_isPeer.F⟩), (114, ⟨impl_RulesFault.sg, impl_RulesFault.F⟩), (115, ⟨impl_isSystem.sg, impl_isSystem.F⟩), (116, ⟨impl_isAddr.sg, impl_isAddr.F⟩), (117, ⟨impl_exportTo.sg, impl_exportTo.F⟩)], eqs⟩
def impl_ExportTo.F (k : Nat) (x : ((List (Int × ((Int × (Int × Unit)) × ((Int × ((List Int) × (Int × (Int × (Int × Unit))))) × Unit)))) × (Int × ((List ((Int × (Int × Unit)) × (Int × (Int × (Int × (Bool × (Int × (Int × Unit)))))))) × (Int × (Int × Unit)))))) : Option (((Int × ((List ((Int × (Int × Unit)) × ((Int × ((List Int) × (Int × (Int × (Int × Unit))))) × Unit))) × Unit)) × Unit) × Unit) :=
  (impl_RibFault.F k (x.1, ())).bind fun y0 =>
  bif (y0.1.1 == (0 : Int)) then
  ((impl_isPeer.F k (x.2.1, ())).bind fun y1 =>
    bif (!y1.1.1) then
    (some ((((3 : Int), ([] : List ((Int × (Int × Unit)) × ((Int × ((List Int) × (Int × (Int × (Int × Unit))))) × Unit))), ()), ()), ()))
    else bif (y0.1.1 == (0 : Int)) then
      ((impl_RulesFault.F k (x.2.2.1, ())).bind fun y2 =>
        bif (y2.1.1 == (0 : Int)) then
        ((impl_isSystem.F k (x.2.2.2.1, ())).bind fun y3 =>
          bif (!y3.1.1) then
          (some ((((3 : Int), ([] : List ((Int × (Int × Unit)) × ((Int × ((List Int) × (Int × (Int × (Int × Unit))))) × Unit))), ()), ()), ()))
          else (impl_isAddr.F k x.2.2.2.2).bind fun y4 =>
            bif (!y4.1.1) then
            (some ((((3 : Int), ([] : List ((Int × (Int × Unit)) × ((Int × ((List Int) × (Int × (Int × (Int × Unit))))) × Unit))), ()), ()), ()))
            else bif (y2.1.1 != (0 : Int)) then
              (some (((y2.1.1, ([] : List ((Int × (Int × Unit)) × ((Int × ((List Int) × (Int × (Int × (Int × Unit))))) × Unit))), ()), ()), ()))
              else (impl_exportTo.F k x).bind fun y5 =>
                some ((((0 : Int), y5.1), ()), ()))
        else bif (y2.1.1 != (0 : Int)) then
          (some (((y2.1.1, ([] : List ((Int × (Int × Unit)) × ((Int × ((List Int) × (Int × (Int × (Int × Unit))))) × Unit))), ()), ()), ()))
          else (impl_exportTo.F k x).bind fun y6 =>
            some ((((0 : Int), y6.1), ()), ()))
      else bif (y0.1.1 == (0 : Int)) then
        ((impl_isSystem.F k (x.2.2.2.1, ())).bind fun y7 =>
          bif (!y7.1.1) then
          (some ((((3 : Int), ([] : List ((Int × (Int × Unit)) × ((Int × ((List Int) × (Int × (Int × (Int × Unit))))) × Unit))), ()), ()), ()))
          else (impl_isAddr.F k x.2.2.2.2).bind fun y8 =>
            bif (!y8.1.1) then
            (some ((((3 : Int), ([] : List ((Int × (Int × Unit)) × ((Int × ((List Int) × (Int × (Int × (Int × Unit))))) × Unit))), ()), ()), ()))
            else bif (y0.1.1 != (0 : Int)) then
              (some (((y0.1.1, ([] : List ((Int × (Int × Unit)) × ((Int × ((List Int) × (Int × (Int × (Int × Unit))))) × Unit))), ()), ()), ()))
              else (impl_exportTo.F k x).bind fun y9 =>
                some ((((0 : Int), y9.1), ()), ()))
        else bif (y0.1.1 != (0 : Int)) then
          (some (((y0.1.1, ([] : List ((Int × (Int × Unit)) × ((Int × ((List Int) × (Int × (Int × (Int × Unit))))) × Unit))), ()), ()), ()))
          else (impl_exportTo.F k x).bind fun y10 =>
            some ((((0 : Int), y10.1), ()), ()))
  else bif (y0.1.1 == (0 : Int)) then
    ((impl_RulesFault.F k (x.2.2.1, ())).bind fun y11 =>
      bif (y11.1.1 == (0 : Int)) then
      ((impl_isSystem.F k (x.2.2.2.1, ())).bind fun y12 =>
        bif (!y12.1.1) then
        (some ((((3 : Int), ([] : List ((Int × (Int × Unit)) × ((Int × ((List Int) × (Int × (Int × (Int × Unit))))) × Unit))), ()), ()), ()))
        else (impl_isAddr.F k x.2.2.2.2).bind fun y13 =>
          bif (!y13.1.1) then
          (some ((((3 : Int), ([] : List ((Int × (Int × Unit)) × ((Int × ((List Int) × (Int × (Int × (Int × Unit))))) × Unit))), ()), ()), ()))
          else bif (y11.1.1 != (0 : Int)) then
            (some (((y11.1.1, ([] : List ((Int × (Int × Unit)) × ((Int × ((List Int) × (Int × (Int × (Int × Unit))))) × Unit))), ()), ()), ()))
            else (impl_exportTo.F k x).bind fun y14 =>
              some ((((0 : Int), y14.1), ()), ()))
      else bif (y11.1.1 != (0 : Int)) then
        (some (((y11.1.1, ([] : List ((Int × (Int × Unit)) × ((Int × ((List Int) × (Int × (Int × (Int × Unit))))) × Unit))), ()), ()), ()))
        else (impl_exportTo.F k x).bind fun y15 =>
          some ((((0 : Int), y15.1), ()), ()))
    else bif (y0.1.1 == (0 : Int)) then
      ((impl_isSystem.F k (x.2.2.2.1, ())).bind fun y16 =>
        bif (!y16.1.1) then
        (some ((((3 : Int), ([] : List ((Int × (Int × Unit)) × ((Int × ((List Int) × (Int × (Int × (Int × Unit))))) × Unit))), ()), ()), ()))
        else (impl_isAddr.F k x.2.2.2.2).bind fun y17 =>
          bif (!y17.1.1) then
          (some ((((3 : Int), ([] : List ((Int × (Int × Unit)) × ((Int × ((List Int) × (Int × (Int × (Int × Unit))))) × Unit))), ()), ()), ()))
          else bif (y0.1.1 != (0 : Int)) then
            (some (((y0.1.1, ([] : List ((Int × (Int × Unit)) × ((Int × ((List Int) × (Int × (Int × (Int × Unit))))) × Unit))), ()), ()), ()))
            else (impl_exportTo.F k x).bind fun y18 =>
              some ((((0 : Int), y18.1), ()), ()))
      else bif (y0.1.1 != (0 : Int)) then
        (some (((y0.1.1, ([] : List ((Int × (Int × Unit)) × ((Int × ((List Int) × (Int × (Int × (Int × Unit))))) × Unit))), ()), ()), ()))
        else (impl_exportTo.F k x).bind fun y19 =>
          some ((((0 : Int), y19.1), ()), ())
def impl_ExportTo.hd : Hints := ⟨[], [], [10], [0, 1, 2, 3, 4, 10, 11], []⟩
def impl_ExportTo.lps (k : Nat) : List (Nat × Lp impl_ExportTo.sg.Out) := []
theorem impl_ExportTo.loops (k : Nat) : LoopsOk impl_ExportTo.E k impl_ExportTo.hd (impl_ExportTo.lps k) (loopsOf (Go.Proofs.Try.f26.body.getD .skip)) := trivial
theorem impl_ExportTo.den (k : Nat) (x : Sig.In impl_ExportTo.sg.ps) : denFn impl_ExportTo.E k Go.Proofs.Try.f26 impl_ExportTo.sg impl_ExportTo.hd (runL k impl_ExportTo.hd (impl_ExportTo.lps k)) x = impl_ExportTo.F k x := by kernel_rfl
theorem impl_ExportTo.ok (k : Nat) : Contract Try.prog 26 impl_ExportTo.sg (impl_ExportTo.F k) := ok_of (E := impl_ExportTo.E) (tysOk _ _) (eqsOk _) ⟨impl_RibFault.ok k, impl_isPeer.ok k, impl_RulesFault.ok k, impl_isSystem.ok k, impl_isAddr.ok k, impl_exportTo.ok k, trivial⟩ Try.func26 rfl (by kernel_rfl) (impl_ExportTo.loops k) (impl_ExportTo.den k)
def spec_l7Route.sg : Sig := ⟨[.b kRoute], [((.int .i64), .rd)]⟩
def spec_l7Route.E : Env := ⟨tys, bys, [(119, ⟨spec_l7Peer.sg, spec_l7Peer.F⟩), (186, ⟨spec_PrefixFault.sg, spec_PrefixFault.F⟩), (187, ⟨spec_AttrsFault.sg, spec_AttrsFault.F⟩)], eqs⟩
def spec_l7Route.F (k : Nat) (x : ((Int × ((Int × (Int × Unit)) × ((Int × ((List Int) × (Int × (Int × (Int × Unit))))) × Unit))) × Unit)) : Option ((Int × Unit) × Unit) :=
  (spec_l7Peer.F k (x.1.1, ())).bind fun y0 =>
  bif (!y0.1.1) then
  (some (((3 : Int), ()), ()))
  else (spec_PrefixFault.F k (x.1.2.1, ())).bind fun y1 =>
    bif (y1.1.1 != (0 : Int)) then
    (some y1)
    else (spec_AttrsFault.F k x.1.2.2).bind fun y2 =>
      some y2
def spec_l7Route.hd : Hints := ⟨[], [], [2], [0, 1, 3], []⟩
def spec_l7Route.lps (k : Nat) : List (Nat × Lp spec_l7Route.sg.Out) := []
theorem spec_l7Route.loops (k : Nat) : LoopsOk spec_l7Route.E k spec_l7Route.hd (spec_l7Route.lps k) (loopsOf (Go.Proofs.Try.f228.body.getD .skip)) := trivial
theorem spec_l7Route.den (k : Nat) (x : Sig.In spec_l7Route.sg.ps) : denFn spec_l7Route.E k Go.Proofs.Try.f228 spec_l7Route.sg spec_l7Route.hd (runL k spec_l7Route.hd (spec_l7Route.lps k)) x = spec_l7Route.F k x := by kernel_rfl
theorem spec_l7Route.ok (k : Nat) : Contract Try.prog 228 spec_l7Route.sg (spec_l7Route.F k) := ok_of (E := spec_l7Route.E) (tysOk _ _) (eqsOk _) ⟨spec_l7Peer.ok k, spec_PrefixFault.ok k, spec_AttrsFault.ok k, trivial⟩ Try.func228 rfl (by kernel_rfl) (spec_l7Route.loops k) (spec_l7Route.den k)
def spec_RibFault.sg : Sig := ⟨[.b (.sl kRoute)], [((.int .i64), .rd)]⟩
def spec_RibFault.E : Env := ⟨tys, bys, [(228, ⟨spec_l7Route.sg, spec_l7Route.F⟩), (229, ⟨spec_l7Behind.sg, spec_l7Behind.F⟩)], eqs⟩
def spec_RibFault.l4 {ρ : Type} (k : Nat) (c0 : (Int × Unit) → Option ρ) (c1 : Unit → Option ρ) : Nat → List (Int × ((Int × (Int × Unit)) × ((Int × ((List Int) × (Int × (Int × (Int × Unit))))) × Unit))) → Int → Option ρ
  | 0 => fun _ _ => none
  | n + 1 => fun x0 x1 => 
    bif (decide ((x1 < (((List.length x0) : Nat) : Int)))) then
    (bif (Go.Dn.inB x1 (((List.length x0) : Nat) : Int)) then
      (Go.Dn.share (List.getD x0 (Int.toNat x1) ((0 : Int), (((0 : Int), ((0 : Int), ())), (((0 : Int), (([] : List Int), ((0 : Int), ((0 : Int), ((0 : Int), ()))))), ())))) fun s0 =>
        (spec_l7Route.F k (s0, ())).bind fun y1 =>
        bif (y1.1.1 != (0 : Int)) then
        (c0 (y1.1.1, ()))
        else bif (decide ((x1 > (0 : Int)))) then
          (bif (Go.Dn.inB (IntKind.wrap .i64 (x1 - (1 : Int))) (((List.length x0) : Nat) : Int)) then
            (Go.Dn.share (List.getD x0 (Int.toNat (IntKind.wrap .i64 (x1 - (1 : Int)))) ((0 : Int), (((0 : Int), ((0 : Int), ())), (((0 : Int), (([] : List Int), ((0 : Int), ((0 : Int), ((0 : Int), ()))))), ())))) fun s2 =>
              bif (Go.Dn.inB x1 (((List.length x0) : Nat) : Int)) then
              (Go.Dn.share (List.getD x0 (Int.toNat x1) ((0 : Int), (((0 : Int), ((0 : Int), ())), (((0 : Int), (([] : List Int), ((0 : Int), ((0 : Int), ((0 : Int), ()))))), ())))) fun s3 =>
                (spec_l7Behind.F k (s2, s3, ())).bind fun y4 =>
                bif (!y4.1.1) then
                (c0 ((1 : Int), ()))
                else spec_RibFault.l4 k c0 c1 n x0 (IntKind.wrap .i64 (x1 + (1 : Int))))
              else none)
            else none)
          else spec_RibFault.l4 k c0 c1 n x0 (IntKind.wrap .i64 (x1 + (1 : Int))))
      else none)
    else c1 (())
def spec_RibFault.F (k : Nat) (x : ((List (Int × ((Int × (Int × Unit)) × ((Int × ((List Int) × (Int × (Int × (Int × Unit))))) × Unit)))) × Unit)) : Option ((Int × Unit) × Unit) :=
  bif (decide (((((List.length x.1) : Nat) : Int) > (60 : Int)))) then
  (some (((2 : Int), ()), ()))
  else spec_RibFault.l4 k (fun e5 =>
      some (e5, ())) (fun e6 =>
      some (((0 : Int), ()), ())) k x.1 (0 : Int)
def spec_RibFault.hd : Hints := ⟨[(4, ⟨[0, 3], []⟩)], [(0, []), (1, [0, 3])], [2], [0, 3, 4], [(9, [0, 1, 3, 7, 7, 23, 63, 127, 7, 7, 775, 1799, 4095, 8191, 16383])]⟩
def spec_RibFault.lps (k : Nat) : List (Nat × Lp spec_RibFault.sg.Out) := [(4, ⟨[.l kRoute, .i], fun x => (fun x0 x1 => ⟨[(0, .v false [.fz kRoute x0]), (3, .v false [.int .i64 x1])], [], []⟩) x.1 x.2.1, fun C n x => spec_RibFault.l4 k (fun y => C .ret ((fun y0 => ⟨[(2, .v false [.int .i64 y0])], [], []⟩) y.1)) (fun _ => C (.exit 0) ⟨[], [], []⟩) n x.1 x.2.1⟩)]
theorem spec_RibFault.loops (k : Nat) : LoopsOk spec_RibFault.E k spec_RibFault.hd (spec_RibFault.lps k) (loopsOf (Go.Proofs.Try.f118.body.getD .skip)) := ⟨⟨fun _ _ => rfl, fun _ _ _ => by kernel_rfl, fun _ => ⟨rfl, rfl⟩⟩, trivial⟩
theorem spec_RibFault.den (k : Nat) (x : Sig.In spec_RibFault.sg.ps) : denFn spec_RibFault.E k Go.Proofs.Try.f118 spec_RibFault.sg spec_RibFault.hd (runL k spec_RibFault.hd (spec_RibFault.lps k)) x = spec_RibFault.F k x := by kernel_rfl
theorem spec_RibFault.ok (k : Nat) : Contract Try.prog 118 spec_RibFault.sg (spec_RibFault.F k) := ok_of (E := spec_RibFault.E) (tysOk _ _) (eqsOk _) ⟨spec_l7Route.ok k, spec_l7Behind.ok k, trivial⟩ Try.func118 rfl (by kernel_rfl) (spec_RibFault.loops k) (spec_RibFault.den k)

end
end Go.Proofs.Ythnidahfdnnboaa
set_option linter.unusedVariables false
set_option maxRecDepth 100000
namespace Go.Proofs.Ythnidahfdnnboaa
open Go Go.Dn
noncomputable section

def spec_RuleFault.sg : Sig := ⟨[.b kRule], [((.int .i64), .rd)]⟩
def spec_RuleFault.E : Env := ⟨tys, bys, [(121, ⟨spec_l1In.sg, spec_l1In.F⟩), (186, ⟨spec_PrefixFault.sg, spec_PrefixFault.F⟩), (273, ⟨spec_l3Word.sg, spec_l3Word.F⟩)], eqs⟩
def spec_RuleFault.F (k : Nat) (x : (((Int × (Int × Unit)) × (Int × (Int × (Int × (Bool × (Int × (Int × Unit))))))) × Unit)) : Option ((Int × Unit) × Unit) :=
  (spec_PrefixFault.F k (x.1.1, ())).bind fun y0 =>
  bif (y0.1.1 != (0 : Int)) then
  (some y0)
  else (spec_l1In.F k (x.1.2.1, (0 : Int), (16 : Int), ())).bind fun y1 =>
    bif (!y1.1.1) then
    (some (((3 : Int), ()), ()))
    else (spec_l1In.F k (x.1.2.2.1, (0 : Int), (16 : Int), ())).bind fun y2 =>
      bif (!y2.1.1) then
      (some (((3 : Int), ()), ()))
      else (spec_l3Word.F k (x.1.2.2.2.1, ())).bind fun y3 =>
        bif (!y3.1.1) then
        (some (((3 : Int), ()), ()))
        else (spec_l1In.F k (x.1.2.2.2.2.2.1, (-(1 : Int)), (65535 : Int), ())).bind fun y4 =>
          bif (!y4.1.1) then
          (some (((3 : Int), ()), ()))
          else (spec_l1In.F k (x.1.2.2.2.2.2.2.1, (0 : Int), (3 : Int), ())).bind fun y5 =>
            bif (!y5.1.1) then
            (some (((3 : Int), ()), ()))
            else bif (decide ((x.1.2.1 > x.1.2.2.1))) then
              (some (((1 : Int), ()), ()))
              else bif x.1.2.2.2.2.1 then
                (bif (x.1.2.2.2.2.2.1 != (-(1 : Int))) then
                  (some (((1 : Int), ()), ()))
                  else bif (x.1.2.2.2.2.2.2.1 != (0 : Int)) then
                    (some (((1 : Int), ()), ()))
                    else some (((0 : Int), ()), ()))
                else some (((0 : Int), ()), ())
def spec_RuleFault.hd : Hints := ⟨[], [], [2], [0, 1, 3], []⟩
def spec_RuleFault.lps (k : Nat) : List (Nat × Lp spec_RuleFault.sg.Out) := []
theorem spec_RuleFault.loops (k : Nat) : LoopsOk spec_RuleFault.E k spec_RuleFault.hd (spec_RuleFault.lps k) (loopsOf (Go.Proofs.Try.f230.body.getD .skip)) := trivial
theorem spec_RuleFault.den (k : Nat) (x : Sig.In spec_RuleFault.sg.ps) : denFn spec_RuleFault.E k Go.Proofs.Try.f230 spec_RuleFault.sg spec_RuleFault.hd (runL k spec_RuleFault.hd (spec_RuleFault.lps k)) x = spec_RuleFault.F k x := by kernel_rfl
theorem spec_RuleFault.ok (k : Nat) : Contract Try.prog 230 spec_RuleFault.sg (spec_RuleFault.F k) := ok_of (E := spec_RuleFault.E) (tysOk _ _) (eqsOk _) ⟨spec_l1In.ok k, spec_PrefixFault.ok k, spec_l3Word.ok k, trivial⟩ Try.func230 rfl (by kernel_rfl) (spec_RuleFault.loops k) (spec_RuleFault.den k)
def spec_RulesFault.sg : Sig := ⟨[.b (.sl kRule)], [((.int .i64), .rd)]⟩
def spec_RulesFault.E : Env := ⟨tys, bys, [(230, ⟨spec_RuleFault.sg, spec_RuleFault.F⟩)], eqs⟩
def spec_RulesFault.l4 {ρ : Type} (k : Nat) (c0 : (Int × Unit) → Option ρ) (c1 : Unit → Option ρ) : Nat → List ((Int × (Int × Unit)) × (Int × (Int × (Int × (Bool × (Int × (Int × Unit))))))) → Int → Option ρ
  | 0 => fun _ _ => none
  | n + 1 => fun x0 x1 => 
    bif (decide ((x1 < (((List.length x0) : Nat) : Int)))) then
    (bif (Go.Dn.inB x1 (((List.length x0) : Nat) : Int)) then
      (Go.Dn.share (List.getD x0 (Int.toNat x1) (((0 : Int), ((0 : Int), ())), ((0 : Int), ((0 : Int), ((0 : Int), (false, ((0 : Int), ((0 : Int), ())))))))) fun s0 =>
        (spec_RuleFault.F k (s0, ())).bind fun y1 =>
        bif (y1.1.1 != (0 : Int)) then
        (c0 (y1.1.1, ()))
        else spec_RulesFault.l4 k c0 c1 n x0 (IntKind.wrap .i64 (x1 + (1 : Int))))
      else none)
    else c1 (())
def spec_RulesFault.F (k : Nat) (x : ((List ((Int × (Int × Unit)) × (Int × (Int × (Int × (Bool × (Int × (Int × Unit)))))))) × Unit)) : Option ((Int × Unit) × Unit) :=
  bif (decide (((((List.length x.1) : Nat) : Int) > (8 : Int)))) then
  (some (((2 : Int), ()), ()))
  else spec_RulesFault.l4 k (fun e2 =>
      some (e2, ())) (fun e3 =>
      some (((0 : Int), ()), ())) k x.1 (0 : Int)
def spec_RulesFault.hd : Hints := ⟨[(4, ⟨[0, 3], []⟩)], [(0, []), (1, [0, 3])], [2], [0, 3, 4], []⟩
def spec_RulesFault.lps (k : Nat) : List (Nat × Lp spec_RulesFault.sg.Out) := [(4, ⟨[.l kRule, .i], fun x => (fun x0 x1 => ⟨[(0, .v false [.fz kRule x0]), (3, .v false [.int .i64 x1])], [], []⟩) x.1 x.2.1, fun C n x => spec_RulesFault.l4 k (fun y => C .ret ((fun y0 => ⟨[(2, .v false [.int .i64 y0])], [], []⟩) y.1)) (fun _ => C (.exit 0) ⟨[], [], []⟩) n x.1 x.2.1⟩)]
theorem spec_RulesFault.loops (k : Nat) : LoopsOk spec_RulesFault.E k spec_RulesFault.hd (spec_RulesFault.lps k) (loopsOf (Go.Proofs.Try.f120.body.getD .skip)) := ⟨⟨fun _ _ => rfl, fun _ _ _ => by kernel_rfl, fun _ => ⟨rfl, rfl⟩⟩, trivial⟩
theorem spec_RulesFault.den (k : Nat) (x : Sig.In spec_RulesFault.sg.ps) : denFn spec_RulesFault.E k Go.Proofs.Try.f120 spec_RulesFault.sg spec_RulesFault.hd (runL k spec_RulesFault.hd (spec_RulesFault.lps k)) x = spec_RulesFault.F k x := by kernel_rfl
theorem spec_RulesFault.ok (k : Nat) : Contract Try.prog 120 spec_RulesFault.sg (spec_RulesFault.F k) := ok_of (E := spec_RulesFault.E) (tysOk _ _) (eqsOk _) ⟨spec_RuleFault.ok k, trivial⟩ Try.func120 rfl (by kernel_rfl) (spec_RulesFault.loops k) (spec_RulesFault.den k)
def spec_BetterRoute.sg : Sig := ⟨[.b kRoute, .b kRoute], [(.bool, .rd)]⟩
def spec_BetterRoute.E : Env := ⟨tys, bys, [], eqs⟩
def spec_BetterRoute.F (k : Nat) (x : ((Int × ((Int × (Int × Unit)) × ((Int × ((List Int) × (Int × (Int × (Int × Unit))))) × Unit))) × ((Int × ((Int × (Int × Unit)) × ((Int × ((List Int) × (Int × (Int × (Int × Unit))))) × Unit))) × Unit))) : Option ((Bool × Unit) × Unit) :=
  bif (x.1.2.2.1.2.2.2.2.1 != x.2.1.2.2.1.2.2.2.2.1) then
  (some (((decide ((x.1.2.2.1.2.2.2.2.1 > x.2.1.2.2.1.2.2.2.2.1))), ()), ()))
  else bif ((((List.length x.1.2.2.1.2.1) : Nat) : Int) != (((List.length x.2.1.2.2.1.2.1) : Nat) : Int)) then
    (some (((decide (((((List.length x.1.2.2.1.2.1) : Nat) : Int) < (((List.length x.2.1.2.2.1.2.1) : Nat) : Int)))), ()), ()))
    else bif (x.1.2.2.1.1 != x.2.1.2.2.1.1) then
      (some (((decide ((x.1.2.2.1.1 < x.2.1.2.2.1.1))), ()), ()))
      else bif (x.1.2.2.1.2.2.2.1 != x.2.1.2.2.1.2.2.2.1) then
        (some (((decide ((x.1.2.2.1.2.2.2.1 < x.2.1.2.2.1.2.2.2.1))), ()), ()))
        else some (((decide ((x.1.1 < x.2.1.1))), ()), ())
def spec_BetterRoute.hd : Hints := ⟨[], [], [4], [0, 1, 2, 3], []⟩
def spec_BetterRoute.lps (k : Nat) : List (Nat × Lp spec_BetterRoute.sg.Out) := []
theorem spec_BetterRoute.loops (k : Nat) : LoopsOk spec_BetterRoute.E k spec_BetterRoute.hd (spec_BetterRoute.lps k) (loopsOf (Go.Proofs.Try.f315.body.getD .skip)) := trivial
theorem spec_BetterRoute.den (k : Nat) (x : Sig.In spec_BetterRoute.sg.ps) : denFn spec_BetterRoute.E k Go.Proofs.Try.f315 spec_BetterRoute.sg spec_BetterRoute.hd (runL k spec_BetterRoute.hd (spec_BetterRoute.lps k)) x = spec_BetterRoute.F k x := by kernel_rfl
theorem spec_BetterRoute.ok (k : Nat) : Contract Try.prog 315 spec_BetterRoute.sg (spec_BetterRoute.F k) := ok_of (E := spec_BetterRoute.E) (tysOk _ _) (eqsOk _) trivial Try.func315 rfl (by kernel_rfl) (spec_BetterRoute.loops k) (spec_BetterRoute.den k)
def spec_l7Best.sg : Sig := ⟨[.b (.sl kRoute), .b kPrefix], [((.int .i64), .rd)]⟩
def spec_l7Best.E : Env := ⟨tys, bys, [(315, ⟨spec_BetterRoute.sg, spec_BetterRoute.F⟩)], eqs⟩
def spec_l7Best.l3 {ρ : Type} (k : Nat) (c0 : (Int × Unit) → Option ρ) : Nat → List (Int × ((Int × (Int × Unit)) × ((Int × ((List Int) × (Int × (Int × (Int × Unit))))) × Unit))) → Int → Int → Int → Int → Option ρ
  | 0 => fun _ _ _ _ _ => none
  | n + 1 => fun x0 x1 x2 x3 x4 => 
    bif (decide ((x2 < (((List.length x0) : Nat) : Int)))) then
    (bif (Go.Dn.inB x2 (((List.length x0) : Nat) : Int)) then
      (Go.Dn.share (List.getD x0 (Int.toNat x2) ((0 : Int), (((0 : Int), ((0 : Int), ())), (((0 : Int), (([] : List Int), ((0 : Int), ((0 : Int), ((0 : Int), ()))))), ())))) fun s0 =>
        bif ((s0.2.1.1 == x3) && ((s0.2.1.2.1 == x4) && true)) then
        (bif (decide ((x1 < (0 : Int)))) then
          (spec_l7Best.l3 k c0 n x0 x2 (IntKind.wrap .i64 (x2 + (1 : Int))) x3 x4)
          else bif (Go.Dn.inB x2 (((List.length x0) : Nat) : Int)) then
            (Go.Dn.share (List.getD x0 (Int.toNat x2) ((0 : Int), (((0 : Int), ((0 : Int), ())), (((0 : Int), (([] : List Int), ((0 : Int), ((0 : Int), ((0 : Int), ()))))), ())))) fun s1 =>
              bif (Go.Dn.inB x1 (((List.length x0) : Nat) : Int)) then
              (Go.Dn.share (List.getD x0 (Int.toNat x1) ((0 : Int), (((0 : Int), ((0 : Int), ())), (((0 : Int), (([] : List Int), ((0 : Int), ((0 : Int), ((0 : Int), ()))))), ())))) fun s2 =>
                (spec_BetterRoute.F k (s1, s2, ())).bind fun y3 =>
                bif y3.1.1 then
                (spec_l7Best.l3 k c0 n x0 x2 (IntKind.wrap .i64 (x2 + (1 : Int))) x3 x4)
                else spec_l7Best.l3 k c0 n x0 x1 (IntKind.wrap .i64 (x2 + (1 : Int))) x3 x4)
              else none)
            else none)
        else spec_l7Best.l3 k c0 n x0 x1 (IntKind.wrap .i64 (x2 + (1 : Int))) x3 x4)
      else none)
    else c0 (x1, ())
def spec_l7Best.F (k : Nat) (x : ((List (Int × ((Int × (Int × Unit)) × ((Int × ((List Int) × (Int × (Int × (Int × Unit))))) × Unit)))) × ((Int × (Int × Unit)) × Unit))) : Option ((Int × Unit) × Unit) :=
  spec_l7Best.l3 k (fun e4 =>
    some (e4, ())) k x.1 (-(1 : Int)) (0 : Int) x.2.1.1 x.2.1.2.1
def spec_l7Best.hd : Hints := ⟨[(3, ⟨[0, 3, 5, 6], []⟩)], [(0, [5]), (1, [0, 3, 5, 6])], [4], [0, 1, 3, 5, 6], [(5, [0, 0, 3, 7, 15, 0, 63, 127, 255, 511, 1023, 2047, 2047, 8191, 16383, 2047, 2047, 100351, 231423, 524287, 1048575, 2097151])]⟩
def spec_l7Best.lps (k : Nat) : List (Nat × Lp spec_l7Best.sg.Out) := [(3, ⟨[.l kRoute, .i, .i, .i, .i], fun x => (fun x0 x1 x2 x3 x4 => ⟨[(0, .v false [.fz kRoute x0]), (3, .v false [.box 0 0]), (5, .v false [.int .i64 x1]), (6, .v false [.int .i64 x2])], [(0, .box [.int .i64 x3, .int .i64 x4])], []⟩) x.1 x.2.1 x.2.2.1 x.2.2.2.1 x.2.2.2.2.1, fun C n x => spec_l7Best.l3 k (fun y => C (.exit 0) ((fun y0 => ⟨[(5, .v false [.int .i64 y0])], [], []⟩) y.1)) n x.1 x.2.1 x.2.2.1 x.2.2.2.1 x.2.2.2.2.1⟩)]
theorem spec_l7Best.loops (k : Nat) : LoopsOk spec_l7Best.E k spec_l7Best.hd (spec_l7Best.lps k) (loopsOf (Go.Proofs.Try.f297.body.getD .skip)) := ⟨⟨fun _ _ => rfl, fun _ _ _ => by kernel_rfl, fun _ => ⟨rfl, rfl⟩⟩, trivial⟩
theorem spec_l7Best.den (k : Nat) (x : Sig.In spec_l7Best.sg.ps) : denFn spec_l7Best.E k Go.Proofs.Try.f297 spec_l7Best.sg spec_l7Best.hd (runL k spec_l7Best.hd (spec_l7Best.lps k)) x = spec_l7Best.F k x := by kernel_rfl
theorem spec_l7Best.ok (k : Nat) : Contract Try.prog 297 spec_l7Best.sg (spec_l7Best.F k) := ok_of (E := spec_l7Best.E) (tysOk _ _) (eqsOk _) ⟨spec_BetterRoute.ok k, trivial⟩ Try.func297 rfl (by kernel_rfl) (spec_l7Best.loops k) (spec_l7Best.den k)
def spec_l7All.sg : Sig := ⟨[.b (.sl kRoute)], [((.sl kRoute), .rd)]⟩
def spec_l7All.E : Env := ⟨tys, bys, [(297, ⟨spec_l7Best.sg, spec_l7Best.F⟩)], eqs⟩
def spec_l7All.l3 {ρ : Type} (k : Nat) (c0 : (List (Int × ((Int × (Int × Unit)) × ((Int × ((List Int) × (Int × (Int × (Int × Unit))))) × Unit))) × Unit) → Option ρ) : Nat → List (Int × ((Int × (Int × Unit)) × ((Int × ((List Int) × (Int × (Int × (Int × Unit))))) × Unit))) → Int → List (Int × ((Int × (Int × Unit)) × ((Int × ((List Int) × (Int × (Int × (Int × Unit))))) × Unit))) → Option ρ
  | 0 => fun _ _ _ => none
  | n + 1 => fun x0 x1 x2 => 
    bif (decide ((x1 < (((List.length x0) : Nat) : Int)))) then
    (bif (x1 == (0 : Int)) then
      (bif (Go.Dn.inB x1 (((List.length x0) : Nat) : Int)) then
        (Go.Dn.share (List.getD x0 (Int.toNat x1) ((0 : Int), (((0 : Int), ((0 : Int), ())), (((0 : Int), (([] : List Int), ((0 : Int), ((0 : Int), ((0 : Int), ()))))), ())))) fun s0 =>
          (spec_l7Best.F k (x0, s0.2.1, ())).bind fun y1 =>
          bif (Go.Dn.inB y1.1.1 (((List.length x0) : Nat) : Int)) then
          (Go.Dn.share (List.getD x0 (Int.toNat y1.1.1) ((0 : Int), (((0 : Int), ((0 : Int), ())), (((0 : Int), (([] : List Int), ((0 : Int), ((0 : Int), ((0 : Int), ()))))), ())))) fun s2 =>
            bif (Go.Dn.roomy ((List.length x2) + (List.length [s2])) 80) then
            (Go.Dn.share (x2 ++ [s2]) fun s3 =>
              spec_l7All.l3 k c0 n x0 (IntKind.wrap .i64 (x1 + (1 : Int))) s3)
            else none)
          else none)
        else none)
      else bif (Go.Dn.inB x1 (((List.length x0) : Nat) : Int)) then
        (Go.Dn.share (List.getD x0 (Int.toNat x1) ((0 : Int), (((0 : Int), ((0 : Int), ())), (((0 : Int), (([] : List Int), ((0 : Int), ((0 : Int), ((0 : Int), ()))))), ())))) fun s4 =>
          bif (Go.Dn.inB (IntKind.wrap .i64 (x1 - (1 : Int))) (((List.length x0) : Nat) : Int)) then
          (Go.Dn.share (List.getD x0 (Int.toNat (IntKind.wrap .i64 (x1 - (1 : Int)))) ((0 : Int), (((0 : Int), ((0 : Int), ())), (((0 : Int), (([] : List Int), ((0 : Int), ((0 : Int), ((0 : Int), ()))))), ())))) fun s5 =>
            bif (!((s4.2.1.1 == s5.2.1.1) && ((s4.2.1.2.1 == s5.2.1.2.1) && true))) then
            (bif (Go.Dn.inB x1 (((List.length x0) : Nat) : Int)) then
              (Go.Dn.share (List.getD x0 (Int.toNat x1) ((0 : Int), (((0 : Int), ((0 : Int), ())), (((0 : Int), (([] : List Int), ((0 : Int), ((0 : Int), ((0 : Int), ()))))), ())))) fun s6 =>
                (spec_l7Best.F k (x0, s6.2.1, ())).bind fun y7 =>
                bif (Go.Dn.inB y7.1.1 (((List.length x0) : Nat) : Int)) then
                (Go.Dn.share (List.getD x0 (Int.toNat y7.1.1) ((0 : Int), (((0 : Int), ((0 : Int), ())), (((0 : Int), (([] : List Int), ((0 : Int), ((0 : Int), ((0 : Int), ()))))), ())))) fun s8 =>
                  bif (Go.Dn.roomy ((List.length x2) + (List.length [s8])) 80) then
                  (Go.Dn.share (x2 ++ [s8]) fun s9 =>
                    spec_l7All.l3 k c0 n x0 (IntKind.wrap .i64 (x1 + (1 : Int))) s9)
                  else none)
                else none)
              else none)
            else spec_l7All.l3 k c0 n x0 (IntKind.wrap .i64 (x1 + (1 : Int))) x2)
          else none)
        else none)
    else c0 (x2, ())
def spec_l7All.F (k : Nat) (x : ((List (Int × ((Int × (Int × Unit)) × ((Int × ((List Int) × (Int × (Int × (Int × Unit))))) × Unit)))) × Unit)) : Option (((List (Int × ((Int × (Int × Unit)) × ((Int × ((List Int) × (Int × (Int × (Int × Unit))))) × Unit)))) × Unit) × Unit) :=
  spec_l7All.l3 k (fun e10 =>
    some (e10, ())) k x.1 (0 : Int) ([] : List (Int × ((Int × (Int × Unit)) × ((Int × ((List Int) × (Int × (Int × (Int × Unit))))) × Unit))))
def spec_l7All.hd : Hints := ⟨[(3, ⟨[0, 3, 4], [⟨3, none, .share⟩]⟩)], [(0, [3]), (1, [0, 3, 4])], [2], [0, 3, 4], [(5, [0, 1, 3, 7, 7, 31, 63, 127, 7, 7, 519, 1799, 3847, 7943, 16383, 32767])]⟩
def spec_l7All.lps (k : Nat) : List (Nat × Lp spec_l7All.sg.Out) := [(3, ⟨[.l kRoute, .i, .l kRoute], fun x => (fun x0 x1 x2 => ⟨[(0, .v false [.fz kRoute x0]), (3, .v false [.arr 0]), (4, .v false [.int .i64 x1])], [(0, .arr kRoute false false x2)], []⟩) x.1 x.2.1 x.2.2.1, fun C n x => spec_l7All.l3 k (fun y => C (.exit 0) ((fun y0 => ⟨[(3, .v false [.arr 0])], [(0, .arr kRoute false false y0)], []⟩) y.1)) n x.1 x.2.1 x.2.2.1⟩)]
theorem spec_l7All.loops (k : Nat) : LoopsOk spec_l7All.E k spec_l7All.hd (spec_l7All.lps k) (loopsOf (Go.Proofs.Try.f231.body.getD .skip)) := ⟨⟨fun _ _ => rfl, fun _ _ _ => by kernel_rfl, fun _ => ⟨rfl, rfl⟩⟩, trivial⟩
theorem spec_l7All.den (k : Nat) (x : Sig.In spec_l7All.sg.ps) : denFn spec_l7All.E k Go.Proofs.Try.f231 spec_l7All.sg spec_l7All.hd (runL k spec_l7All.hd (spec_l7All.lps k)) x = spec_l7All.F k x := by kernel_rfl
theorem spec_l7All.ok (k : Nat) : Contract Try.prog 231 spec_l7All.sg (spec_l7All.F k) := ok_of (E := spec_l7All.E) (tysOk _ _) (eqsOk _) ⟨spec_l7Best.ok k, trivial⟩ Try.func231 rfl (by kernel_rfl) (spec_l7All.loops k) (spec_l7All.den k)
def spec_l2Has.sg : Sig := ⟨[.b kPrefix, .b (.int .i64)], [(.bool, .rd)]⟩
def spec_l2Has.E : Env := ⟨tys, bys, [(270, ⟨spec_l2Rest.sg, spec_l2Rest.F⟩)], eqs⟩
def spec_l2Has.F (k : Nat) (x : ((Int × (Int × Unit)) × (Int × Unit))) : Option ((Bool × Unit) × Unit) :=
  (spec_l2Rest.F k x.1.2).bind fun y0 =>
  some ((((Go.Dn.andNotV .i64 x.2.1 y0.1.1) == x.1.1), ()), ())
def spec_l2Has.hd : Hints := ⟨[], [], [4], [0, 1, 2], [(1, [0, 0, 2, 6, 15, 0, 32, 127, 255])]⟩
def spec_l2Has.lps (k : Nat) : List (Nat × Lp spec_l2Has.sg.Out) := []
theorem spec_l2Has.loops (k : Nat) : LoopsOk spec_l2Has.E k spec_l2Has.hd (spec_l2Has.lps k) (loopsOf (Go.Proofs.Try.f325.body.getD .skip)) := trivial
theorem spec_l2Has.den (k : Nat) (x : Sig.In spec_l2Has.sg.ps) : denFn spec_l2Has.E k Go.Proofs.Try.f325 spec_l2Has.sg spec_l2Has.hd (runL k spec_l2Has.hd (spec_l2Has.lps k)) x = spec_l2Has.F k x := by kernel_rfl
theorem spec_l2Has.ok (k : Nat) : Contract Try.prog 325 spec_l2Has.sg (spec_l2Has.F k) := ok_of (E := spec_l2Has.E) (tysOk _ _) (eqsOk _) ⟨spec_l2Rest.ok k, trivial⟩ Try.func325 rfl (by kernel_rfl) (spec_l2Has.loops k) (spec_l2Has.den k)
def spec_IsWithin.sg : Sig := ⟨[.b kPrefix, .b kPrefix], [(.bool, .rd)]⟩
def spec_IsWithin.E : Env := ⟨tys, bys, [(186, ⟨spec_PrefixFault.sg, spec_PrefixFault.F⟩), (325, ⟨spec_l2Has.sg, spec_l2Has.F⟩)], eqs⟩
def spec_IsWithin.F (k : Nat) (x : ((Int × (Int × Unit)) × ((Int × (Int × Unit)) × Unit))) : Option ((Bool × Unit) × Unit) :=
  (spec_PrefixFault.F k (x.1, ())).bind fun y0 =>
  bif (y0.1.1 == (0 : Int)) then
  ((spec_PrefixFault.F k x.2).bind fun y1 =>
    bif (y1.1.1 == (0 : Int)) then
    (bif (decide ((x.1.2.1 ≥ x.2.1.2.1))) then
      ((spec_l2Has.F k (x.2.1, x.1.1, ())).bind fun y2 =>
        some y2)
      else some ((false, ()), ()))
    else some ((false, ()), ()))
  else some ((false, ()), ())
def spec_IsWithin.hd : Hints := ⟨[], [], [4], [0, 1, 2, 3], []⟩
def spec_IsWithin.lps (k : Nat) : List (Nat × Lp spec_IsWithin.sg.Out) := []
theorem spec_IsWithin.loops (k : Nat) : LoopsOk spec_IsWithin.E k spec_IsWithin.hd (spec_IsWithin.lps k) (loopsOf (Go.Proofs.Try.f316.body.getD .skip)) := trivial
theorem spec_IsWithin.den (k : Nat) (x : Sig.In spec_IsWithin.sg.ps) : denFn spec_IsWithin.E k Go.Proofs.Try.f316 spec_IsWithin.sg spec_IsWithin.hd (runL k spec_IsWithin.hd (spec_IsWithin.lps k)) x = spec_IsWithin.F k x := by kernel_rfl
theorem spec_IsWithin.ok (k : Nat) : Contract Try.prog 316 spec_IsWithin.sg (spec_IsWithin.F k) := ok_of (E := spec_IsWithin.E) (tysOk _ _) (eqsOk _) ⟨spec_PrefixFault.ok k, spec_l2Has.ok k, trivial⟩ Try.func316 rfl (by kernel_rfl) (spec_IsWithin.loops k) (spec_IsWithin.den k)
def spec_HasLoop.sg : Sig := ⟨[.b kAttrs, .b (.int .i64)], [(.bool, .rd)]⟩
def spec_HasLoop.E : Env := ⟨tys, bys, [], eqs⟩
def spec_HasLoop.l2 {ρ : Type} (k : Nat) (c0 : (Bool × Unit) → Option ρ) (c1 : Unit → Option ρ) : Nat → Int → Int → Int → List Int → Int → Int → Int → Option ρ
  | 0 => fun _ _ _ _ _ _ _ => none
  | n + 1 => fun x0 x1 x2 x3 x4 x5 x6 => 
    bif (decide ((x1 < (((List.length x3) : Nat) : Int)))) then
    (bif (Go.Dn.inB x1 (((List.length x3) : Nat) : Int)) then
      (Go.Dn.share (List.getD x3 (Int.toNat x1) (0 : Int)) fun s0 =>
        bif (s0 == x0) then
        (c0 (true, ()))
        else spec_HasLoop.l2 k c0 c1 n x0 (IntKind.wrap .i64 (x1 + (1 : Int))) x2 x3 x4 x5 x6)
      else none)
    else c1 (())
def spec_HasLoop.F (k : Nat) (x : ((Int × ((List Int) × (Int × (Int × (Int × Unit))))) × (Int × Unit))) : Option ((Bool × Unit) × Unit) :=
  spec_HasLoop.l2 k (fun e1 =>
    some (e1, ())) (fun e2 =>
    some ((false, ()), ())) k x.2.1 (0 : Int) x.1.1 x.1.2.1 x.1.2.2.1 x.1.2.2.2.1 x.1.2.2.2.2.1
def spec_HasLoop.hd : Hints := ⟨[(2, ⟨[1, 2, 5], []⟩)], [(0, []), (1, [1, 2, 5])], [4], [0, 1, 2, 5], []⟩
def spec_HasLoop.lps (k : Nat) : List (Nat × Lp spec_HasLoop.sg.Out) := [(2, ⟨[.i, .i, .i, .l (.int .i64), .i, .i, .i], fun x => (fun x0 x1 x2 x3 x4 x5 x6 => ⟨[(1, .v false [.int .i64 x0]), (2, .v false [.box 0 0]), (5, .v false [.int .i64 x1])], [(0, .box [.int .i64 x2, .fz (.int .i64) x3, .int .i64 x4, .int .i64 x5, .int .i64 x6])], []⟩) x.1 x.2.1 x.2.2.1 x.2.2.2.1 x.2.2.2.2.1 x.2.2.2.2.2.1 x.2.2.2.2.2.2.1, fun C n x => spec_HasLoop.l2 k (fun y => C .ret ((fun y0 => ⟨[(4, .v false [.bool y0])], [], []⟩) y.1)) (fun _ => C (.exit 0) ⟨[], [], []⟩) n x.1 x.2.1 x.2.2.1 x.2.2.2.1 x.2.2.2.2.1 x.2.2.2.2.2.1 x.2.2.2.2.2.2.1⟩)]
theorem spec_HasLoop.loops (k : Nat) : LoopsOk spec_HasLoop.E k spec_HasLoop.hd (spec_HasLoop.lps k) (loopsOf (Go.Proofs.Try.f317.body.getD .skip)) := ⟨⟨fun _ _ => rfl, fun _ _ _ => by kernel_rfl, fun _ => ⟨rfl, rfl⟩⟩, trivial⟩
theorem spec_HasLoop.den (k : Nat) (x : Sig.In spec_HasLoop.sg.ps) : denFn spec_HasLoop.E k Go.Proofs.Try.f317 spec_HasLoop.sg spec_HasLoop.hd (runL k spec_HasLoop.hd (spec_HasLoop.lps k)) x = spec_HasLoop.F k x := by kernel_rfl
theorem spec_HasLoop.ok (k : Nat) : Contract Try.prog 317 spec_HasLoop.sg (spec_HasLoop.F k) := ok_of (E := spec_HasLoop.E) (tysOk _ _) (eqsOk _) trivial Try.func317 rfl (by kernel_rfl) (spec_HasLoop.loops k) (spec_HasLoop.den k)
def spec_l6Matches.sg : Sig := ⟨[.b kRule, .b kPrefix, .b kAttrs], [(.bool, .rd)]⟩
def spec_l6Matches.E : Env := ⟨tys, bys, [(121, ⟨spec_l1In.sg, spec_l1In.F⟩), (316, ⟨spec_IsWithin.sg, spec_IsWithin.F⟩), (317, ⟨spec_HasLoop.sg, spec_HasLoop.F⟩)], eqs⟩
def spec_l6Matches.F (k : Nat) (x : (((Int × (Int × Unit)) × (Int × (Int × (Int × (Bool × (Int × (Int × Unit))))))) × ((Int × (Int × Unit)) × ((Int × ((List Int) × (Int × (Int × (Int × Unit))))) × Unit)))) : Option ((Bool × Unit) × Unit) :=
  (spec_IsWithin.F k (x.2.1, x.1.1, ())).bind fun y0 =>
  bif y0.1.1 then
  ((spec_l1In.F k (x.2.1.2.1, x.1.2.1, x.1.2.2.1, ())).bind fun y1 =>
    bif y1.1.1 then
    (bif (x.1.2.2.2.1 == (0 : Int)) then
      (some ((true, ()), ()))
      else (spec_HasLoop.F k (x.2.2.1, x.1.2.2.2.1, ())).bind fun y2 =>
        some y2)
    else some ((false, ()), ()))
  else some ((false, ()), ())
def spec_l6Matches.hd : Hints := ⟨[], [], [6], [0, 1, 2, 3, 4, 5], []⟩
def spec_l6Matches.lps (k : Nat) : List (Nat × Lp spec_l6Matches.sg.Out) := []
theorem spec_l6Matches.loops (k : Nat) : LoopsOk spec_l6Matches.E k spec_l6Matches.hd (spec_l6Matches.lps k) (loopsOf (Go.Proofs.Try.f298.body.getD .skip)) := trivial
theorem spec_l6Matches.den (k : Nat) (x : Sig.In spec_l6Matches.sg.ps) : denFn spec_l6Matches.E k Go.Proofs.Try.f298 spec_l6Matches.sg spec_l6Matches.hd (runL k spec_l6Matches.hd (spec_l6Matches.lps k)) x = spec_l6Matches.F k x := by kernel_rfl
theorem spec_l6Matches.ok (k : Nat) : Contract Try.prog 298 spec_l6Matches.sg (spec_l6Matches.F k) := ok_of (E := spec_l6Matches.E) (tysOk _ _) (eqsOk _) ⟨spec_l1In.ok k, spec_IsWithin.ok k, spec_HasLoop.ok k, trivial⟩ Try.func298 rfl (by kernel_rfl) (spec_l6Matches.loops k) (spec_l6Matches.den k)
def spec_l6Apply.sg : Sig := ⟨[.b (.sl kRule), .b (.int .i64), .b kPrefix, .b kAttrs], [(kAttrsResult, .fl)]⟩
def spec_l6Apply.E : Env := ⟨tys, bys, [(191, ⟨spec_l6Copy.sg, spec_l6Copy.F⟩), (298, ⟨spec_l6Matches.sg, spec_l6Matches.F⟩)], eqs⟩
def spec_l6Apply.l14 {ρ : Type} (k : Nat) (c0 : (Int × (Int × (Int × (Int × (Int × (Int × (Int × (Int × (Int × (Int × (Int × (List Int × Unit)))))))))))) → Option ρ) : Nat → Int → Int → Int → Int → Int → Int → Int → Int → Int → Int → Int → Int → Int → Int → Bool → Int → Int → Int → Int → Int → Int → List Int → Option ρ
  | 0 => fun _ _ _ _ _ _ _ _ _ _ _ _ _ _ _ _ _ _ _ _ _ _ => none
  | n + 1 => fun x0 x1 x2 x3 x4 x5 x6 x7 x8 x9 x10 x11 x12 x13 x14 x15 x16 x17 x18 x19 x20 x21 => 
    bif (decide ((x2 < x16))) then
    (bif (Go.Dn.roomy ((List.length [x0]) + (List.length x21)) 8) then
      (Go.Dn.share ([x0] ++ x21) fun s3 =>
        spec_l6Apply.l14 k c0 n x0 x1 (IntKind.wrap .i64 (x2 + (1 : Int))) x3 x4 x5 x6 x7 x8 x9 x10 x11 x12 x13 x14 x15 x16 x17 x18 x19 x20 s3)
      else none)
    else c0 (x1, x3, x4, x5, x6, x7, x8, x17, x18, x19, x20, x21, ())
def spec_l6Apply.l2 {ρ : Type} (k : Nat) (c0 : (Int × (Int × (Int × (Int × (Int × (Int × Unit)))))) → Option ρ) (c1 : (Int × (Int × (Int × (Int × (Int × (Int × (List Int × Unit))))))) → Option ρ) (c2 : (Int × (List Int × (Int × (Int × (Int × (Int × (Int × (Int × (Int × (Int × (Int × Unit))))))))))) → Option ρ) : Nat → List ((Int × (Int × Unit)) × (Int × (Int × (Int × (Bool × (Int × (Int × Unit))))))) → Int → Int → Int → Int → Int → List Int → Int → Int → Int → Int → Int → Int → Int → Int → Int → Option ρ
  | 0 => fun _ _ _ _ _ _ _ _ _ _ _ _ _ _ _ _ => none
  | n + 1 => fun x0 x1 x2 x3 x4 x5 x6 x7 x8 x9 x10 x11 x12 x13 x14 x15 => 
    bif (decide ((x2 < (((List.length x0) : Nat) : Int)))) then
    (bif (Go.Dn.inB x2 (((List.length x0) : Nat) : Int)) then
      (Go.Dn.share (List.getD x0 (Int.toNat x2) (((0 : Int), ((0 : Int), ())), ((0 : Int), ((0 : Int), ((0 : Int), (false, ((0 : Int), ((0 : Int), ())))))))) fun s0 =>
        (spec_l6Matches.F k (s0, (x3, x4, ()), (x5, x6, x7, x8, x9, ()), ())).bind fun y1 =>
        bif (!y1.1.1) then
        (spec_l6Apply.l2 k c0 c1 c2 n x0 x1 (IntKind.wrap .i64 (x2 + (1 : Int))) x3 x4 x5 x6 x7 x8 x9 x10 x11 x12 x13 x14 x15)
        else bif s0.2.2.2.2.1 then
          (c0 ((4 : Int), x2, (0 : Int), (0 : Int), (0 : Int), (0 : Int), ()))
          else bif (decide (((IntKind.wrap .i64 ((((List.length x6) : Nat) : Int) + s0.2.2.2.2.2.2.1)) > (6 : Int)))) then
            (c0 ((2 : Int), x2, (0 : Int), (0 : Int), (0 : Int), (0 : Int), ()))
            else (spec_l6Copy.F k ((x5, x6, x7, x8, x9, ()), ())).bind fun y2 =>
              bif (decide ((s0.2.2.2.2.2.1 ≥ (0 : Int)))) then
              (spec_l6Apply.l14 k (fun e4 =>
                  c1 ((0 : Int), e4.1, e4.2.2.2.2.2.2.2.1, e4.2.2.2.2.2.2.2.2.1, e4.2.2.2.2.2.2.2.2.2.1, e4.2.2.2.2.2.2.2.2.2.2.1, e4.2.2.2.2.2.2.2.2.2.2.2.1, ())) k x1 x2 (0 : Int) x10 x11 x12 x13 x14 x15 s0.1.1 s0.1.2.1 s0.2.1 s0.2.2.1 s0.2.2.2.1 s0.2.2.2.2.1 s0.2.2.2.2.2.1 s0.2.2.2.2.2.2.1 y2.1.1.1 y2.1.1.2.2.1 y2.1.1.2.2.2.1 s0.2.2.2.2.2.1 y2.1.1.2.1)
              else spec_l6Apply.l14 k (fun e5 =>
                  c1 ((0 : Int), e5.1, e5.2.2.2.2.2.2.2.1, e5.2.2.2.2.2.2.2.2.1, e5.2.2.2.2.2.2.2.2.2.1, e5.2.2.2.2.2.2.2.2.2.2.1, e5.2.2.2.2.2.2.2.2.2.2.2.1, ())) k x1 x2 (0 : Int) x10 x11 x12 x13 x14 x15 s0.1.1 s0.1.2.1 s0.2.1 s0.2.2.1 s0.2.2.2.1 s0.2.2.2.2.1 s0.2.2.2.2.2.1 s0.2.2.2.2.2.2.1 y2.1.1.1 y2.1.1.2.2.1 y2.1.1.2.2.2.1 y2.1.1.2.2.2.2.1 y2.1.1.2.1)
      else none)
    else c2 (x5, x6, x7, x8, x9, x10, x11, x12, x13, x14, x15, ())
def spec_l6Apply.F (k : Nat) (x : ((List ((Int × (Int × Unit)) × (Int × (Int × (Int × (Bool × (Int × (Int × Unit)))))))) × (Int × ((Int × (Int × Unit)) × ((Int × ((List Int) × (Int × (Int × (Int × Unit))))) × Unit))))) : Option (((Int × (Int × ((Int × ((List Int) × (Int × (Int × (Int × Unit))))) × Unit))) × Unit) × Unit) :=
  spec_l6Apply.l2 k (fun e6 =>
    some (((e6.1, e6.2.1, (e6.2.2.1, ([] : List Int), e6.2.2.2), ()), ()), ())) (fun e7 =>
    some (((e7.1, e7.2.1, (e7.2.2.1, e7.2.2.2.2.2.2.1, e7.2.2.2.1, e7.2.2.2.2.1, e7.2.2.2.2.2.1, ()), ()), ()), ())) (fun e8 =>
    (spec_l6Copy.F k ((e8.1, e8.2.1, e8.2.2.1, e8.2.2.2.1, e8.2.2.2.2.1, ()), ())).bind fun y9 =>
    some ((((0 : Int), (-(1 : Int)), y9.1), ()), ())) k x.1 x.2.1 (0 : Int) x.2.2.1.1 x.2.2.1.2.1 x.2.2.2.1.1 x.2.2.2.1.2.1 x.2.2.2.1.2.2.1 x.2.2.2.1.2.2.2.1 x.2.2.2.1.2.2.2.2.1 (0 : Int) (0 : Int) (0 : Int) (0 : Int) (0 : Int) (0 : Int)
def spec_l6Apply.hd : Hints := ⟨[(2, ⟨[0, 1, 6, 7, 8, 9], []⟩), (14, ⟨[1, 8, 9, 10, 11, 12], [⟨11, (some 1), .share⟩]⟩)], [(0, [7, 8]), (1, [0, 1, 6, 7, 8, 9]), (2, [8, 9, 11]), (3, [1, 8, 9, 10, 11, 12])], [8], [0, 1, 2, 3, 6, 7, 8, 9, 10, 11, 12], []⟩
def spec_l6Apply.lps (k : Nat) : List (Nat × Lp spec_l6Apply.sg.Out) := [(14, ⟨[.i, .i, .i, .i, .i, .i, .i, .i, .i, .i, .i, .i, .i, .i, .b, .i, .i, .i, .i, .i, .i, .l (.int .i64)], fun x => (fun x0 x1 x2 x3 x4 x5 x6 x7 x8 x9 x10 x11 x12 x13 x14 x15 x16 x17 x18 x19 x20 x21 => ⟨[(1, .v false [.int .i64 x0]), (8, .v false [.box 0 0]), (9, .v false [.int .i64 x1]), (10, .v false [.box 2 0]), (11, .v false [.box 4 0]), (12, .v false [.int .i64 x2])], [(0, .box [.int .i64 x3, .int .i64 x4, .int .i64 x5, .nil, .int .i64 x6, .int .i64 x7, .int .i64 x8]), (2, .box [.int .i64 x9, .int .i64 x10, .int .i64 x11, .int .i64 x12, .int .i64 x13, .bool x14, .int .i64 x15, .int .i64 x16]), (4, .box [.int .i64 x17, .arr 6, .int .i64 x18, .int .i64 x19, .int .i64 x20]), (6, .arr (.int .i64) false false x21)], []⟩) x.1 x.2.1 x.2.2.1 x.2.2.2.1 x.2.2.2.2.1 x.2.2.2.2.2.1 x.2.2.2.2.2.2.1 x.2.2.2.2.2.2.2.1 x.2.2.2.2.2.2.2.2.1 x.2.2.2.2.2.2.2.2.2.1 x.2.2.2.2.2.2.2.2.2.2.1 x.2.2.2.2.2.2.2.2.2.2.2.1 x.2.2.2.2.2.2.2.2.2.2.2.2.1 x.2.2.2.2.2.2.2.2.2.2.2.2.2.1 x.2.2.2.2.2.2.2.2.2.2.2.2.2.2.1 x.2.2.2.2.2.2.2.2.2.2.2.2.2.2.2.1 x.2.2.2.2.2.2.2.2.2.2.2.2.2.2.2.2.1 x.2.2.2.2.2.2.2.2.2.2.2.2.2.2.2.2.2.1 x.2.2.2.2.2.2.2.2.2.2.2.2.2.2.2.2.2.2.1 x.2.2.2.2.2.2.2.2.2.2.2.2.2.2.2.2.2.2.2.1 x.2.2.2.2.2.2.2.2.2.2.2.2.2.2.2.2.2.2.2.2.1 x.2.2.2.2.2.2.2.2.2.2.2.2.2.2.2.2.2.2.2.2.2.1, fun C n x => spec_l6Apply.l14 k (fun y => C (.exit 2) ((fun y0 y1 y2 y3 y4 y5 y6 y7 y8 y9 y10 y11 => ⟨[(8, .v false [.box 0 0]), (9, .v false [.int .i64 y0]), (11, .v false [.box 2 0])], [(0, .box [.int .i64 y1, .int .i64 y2, .int .i64 y3, .nil, .int .i64 y4, .int .i64 y5, .int .i64 y6]), (2, .box [.int .i64 y7, .arr 4, .int .i64 y8, .int .i64 y9, .int .i64 y10]), (4, .arr (.int .i64) false false y11)], []⟩) y.1 y.2.1 y.2.2.1 y.2.2.2.1 y.2.2.2.2.1 y.2.2.2.2.2.1 y.2.2.2.2.2.2.1 y.2.2.2.2.2.2.2.1 y.2.2.2.2.2.2.2.2.1 y.2.2.2.2.2.2.2.2.2.1 y.2.2.2.2.2.2.2.2.2.2.1 y.2.2.2.2.2.2.2.2.2.2.2.1)) n x.1 x.2.1 x.2.2.1 x.2.2.2.1 x.2.2.2.2.1 x.2.2.2.2.2.1 x.2.2.2.2.2.2.1 x.2.2.2.2.2.2.2.1 x.2.2.2.2.2.2.2.2.1 x.2.2.2.2.2.2.2.2.2.1 x.2.2.2.2.2.2.2.2.2.2.1 x.2.2.2.2.2.2.2.2.2.2.2.1 x.2.2.2.2.2.2.2.2.2.2.2.2.1 x.2.2.2.2.2.2.2.2.2.2.2.2.2.1 x.2.2.2.2.2.2.2.2.2.2.2.2.2.2.1 x.2.2.2.2.2.2.2.2.2.2.2.2.2.2.2.1 x.2.2.2.2.2.2.2.2.2.2.2.2.2.2.2.2.1 x.2.2.2.2.2.2.2.2.2.2.2.2.2.2.2.2.2.1 x.2.2.2.2.2.2.2.2.2.2.2.2.2.2.2.2.2.2.1 x.2.2.2.2.2.2.2.2.2.2.2.2.2.2.2.2.2.2.2.1 x.2.2.2.2.2.2.2.2.2.2.2.2.2.2.2.2.2.2.2.2.1 x.2.2.2.2.2.2.2.2.2.2.2.2.2.2.2.2.2.2.2.2.2.1⟩),
  (2, ⟨[.l kRule, .i, .i, .i, .i, .i, .l (.int .i64), .i, .i, .i, .i, .i, .i, .i, .i, .i], fun x => (fun x0 x1 x2 x3 x4 x5 x6 x7 x8 x9 x10 x11 x12 x13 x14 x15 => ⟨[(0, .v false [.fz kRule x0]), (1, .v false [.int .i64 x1]), (6, .v false [.box 0 0]), (7, .v false [.box 2 0]), (8, .v false [.box 4 0]), (9, .v false [.int .i64 x2])], [(0, .box [.int .i64 x3, .int .i64 x4]), (2, .box [.int .i64 x5, .fz (.int .i64) x6, .int .i64 x7, .int .i64 x8, .int .i64 x9]), (4, .box [.int .i64 x10, .int .i64 x11, .int .i64 x12, .nil, .int .i64 x13, .int .i64 x14, .int .i64 x15])], []⟩) x.1 x.2.1 x.2.2.1 x.2.2.2.1 x.2.2.2.2.1 x.2.2.2.2.2.1 x.2.2.2.2.2.2.1 x.2.2.2.2.2.2.2.1 x.2.2.2.2.2.2.2.2.1 x.2.2.2.2.2.2.2.2.2.1 x.2.2.2.2.2.2.2.2.2.2.1 x.2.2.2.2.2.2.2.2.2.2.2.1 x.2.2.2.2.2.2.2.2.2.2.2.2.1 x.2.2.2.2.2.2.2.2.2.2.2.2.2.1 x.2.2.2.2.2.2.2.2.2.2.2.2.2.2.1 x.2.2.2.2.2.2.2.2.2.2.2.2.2.2.2.1, fun C n x => spec_l6Apply.l2 k (fun y => C .ret ((fun y0 y1 y2 y3 y4 y5 => ⟨[(8, .v false [.box 0 0])], [(0, .box [.int .i64 y0, .int .i64 y1, .int .i64 y2, .nil, .int .i64 y3, .int .i64 y4, .int .i64 y5])], []⟩) y.1 y.2.1 y.2.2.1 y.2.2.2.1 y.2.2.2.2.1 y.2.2.2.2.2.1)) (fun y => C .ret ((fun y0 y1 y2 y3 y4 y5 y6 => ⟨[(8, .v false [.box 0 0])], [(0, .box [.int .i64 y0, .int .i64 y1, .int .i64 y2, .arr 2, .int .i64 y3, .int .i64 y4, .int .i64 y5]), (2, .arr (.int .i64) false false y6)], []⟩) y.1 y.2.1 y.2.2.1 y.2.2.2.1 y.2.2.2.2.1 y.2.2.2.2.2.1 y.2.2.2.2.2.2.1)) (fun y => C (.exit 0) ((fun y0 y1 y2 y3 y4 y5 y6 y7 y8 y9 y10 => ⟨[(7, .v false [.box 0 0]), (8, .v false [.box 2 0])], [(0, .box [.int .i64 y0, .fz (.int .i64) y1, .int .i64 y2, .int .i64 y3, .int .i64 y4]), (2, .box [.int .i64 y5, .int .i64 y6, .int .i64 y7, .nil, .int .i64 y8, .int .i64 y9, .int .i64 y10])], []⟩) y.1 y.2.1 y.2.2.1 y.2.2.2.1 y.2.2.2.2.1 y.2.2.2.2.2.1 y.2.2.2.2.2.2.1 y.2.2.2.2.2.2.2.1 y.2.2.2.2.2.2.2.2.1 y.2.2.2.2.2.2.2.2.2.1 y.2.2.2.2.2.2.2.2.2.2.1)) n x.1 x.2.1 x.2.2.1 x.2.2.2.1 x.2.2.2.2.1 x.2.2.2.2.2.1 x.2.2.2.2.2.2.1 x.2.2.2.2.2.2.2.1 x.2.2.2.2.2.2.2.2.1 x.2.2.2.2.2.2.2.2.2.1 x.2.2.2.2.2.2.2.2.2.2.1 x.2.2.2.2.2.2.2.2.2.2.2.1 x.2.2.2.2.2.2.2.2.2.2.2.2.1 x.2.2.2.2.2.2.2.2.2.2.2.2.2.1 x.2.2.2.2.2.2.2.2.2.2.2.2.2.2.1 x.2.2.2.2.2.2.2.2.2.2.2.2.2.2.2.1⟩)]
theorem spec_l6Apply.loops (k : Nat) : LoopsOk spec_l6Apply.E k spec_l6Apply.hd (spec_l6Apply.lps k) (loopsOf (Go.Proofs.Try.f232.body.getD .skip)) := ⟨⟨fun _ _ => rfl, fun _ _ _ => by kernel_rfl, fun _ => ⟨rfl, rfl⟩⟩, ⟨⟨fun _ _ => rfl, fun _ _ _ => by kernel_rfl, fun _ => ⟨rfl, rfl⟩⟩, trivial⟩⟩
theorem spec_l6Apply.den (k : Nat) (x : Sig.In spec_l6Apply.sg.ps) : denFn spec_l6Apply.E k Go.Proofs.Try.f232 spec_l6Apply.sg spec_l6Apply.hd (runL k spec_l6Apply.hd (spec_l6Apply.lps k)) x = spec_l6Apply.F k x := by kernel_rfl
theorem spec_l6Apply.ok (k : Nat) : Contract Try.prog 232 spec_l6Apply.sg (spec_l6Apply.F k) := ok_of (E := spec_l6Apply.E) (tysOk _ _) (eqsOk _) ⟨spec_l6Copy.ok k, spec_l6Matches.ok k, trivial⟩ Try.func232 rfl (by kernel_rfl) (spec_l6Apply.loops k) (spec_l6Apply.den k)
def spec_l6Export.sg : Sig := ⟨[.b kAttrs, .b (.int .i64), .b (.int .i64)], [(kAttrs, .fl), (.bool, .rd)]⟩
def spec_l6Export.E : Env := ⟨tys, bys, [], eqs⟩
def spec_l6Export.F (k : Nat) (x : ((Int × ((List Int) × (Int × (Int × (Int × Unit))))) × (Int × (Int × Unit)))) : Option (((Int × ((List Int) × (Int × (Int × (Int × Unit))))) × (Bool × Unit)) × Unit) :=
  bif (decide (((((List.length x.1.2.1) : Nat) : Int) ≥ (6 : Int)))) then
  (some ((((0 : Int), ([] : List Int), (0 : Int), (0 : Int), (0 : Int), ()), false, ()), ()))
  else bif (Go.Dn.roomy ((List.length [x.2.1]) + (List.length x.1.2.1)) 8) then
    (Go.Dn.share ([x.2.1] ++ x.1.2.1) fun s0 =>
      some (((x.1.1, s0, x.2.2.1, (0 : Int), (0 : Int), ()), true, ()), ()))
    else none
def spec_l6Export.hd : Hints := ⟨[], [], [6, 7], [0, 1, 2, 3, 6], [(3, [0, 1, 0, 4, 0, 16, 60, 0, 255, 511, 1023])]⟩
def spec_l6Export.lps (k : Nat) : List (Nat × Lp spec_l6Export.sg.Out) := []
theorem spec_l6Export.loops (k : Nat) : LoopsOk spec_l6Export.E k spec_l6Export.hd (spec_l6Export.lps k) (loopsOf (Go.Proofs.Try.f233.body.getD .skip)) := trivial
theorem spec_l6Export.den (k : Nat) (x : Sig.In spec_l6Export.sg.ps) : denFn spec_l6Export.E k Go.Proofs.Try.f233 spec_l6Export.sg spec_l6Export.hd (runL k spec_l6Export.hd (spec_l6Export.lps k)) x = spec_l6Export.F k x := by kernel_rfl
theorem spec_l6Export.ok (k : Nat) : Contract Try.prog 233 spec_l6Export.sg (spec_l6Export.F k) := ok_of (E := spec_l6Export.E) (tysOk _ _) (eqsOk _) trivial Try.func233 rfl (by kernel_rfl) (spec_l6Export.loops k) (spec_l6Export.den k)
def spec_l8Export.sg : Sig := ⟨[.b (.sl kRoute), .b (.int .i64), .b (.sl kRule), .b (.int .i64), .b (.int .i64)], [((.sl kTold), .fl)]⟩
def spec_l8Export.E : Env := ⟨tys, bys, [(231, ⟨spec_l7All.sg, spec_l7All.F⟩), (232, ⟨spec_l6Apply.sg, spec_l6Apply.F⟩), (233, ⟨spec_l6Export.sg, spec_l6Export.F⟩)], eqs⟩
def spec_l8Export.l4 {ρ : Type} (k : Nat) (c0 : (List ((Int × (Int × Unit)) × ((Int × ((List Int) × (Int × (Int × (Int × Unit))))) × Unit)) × Unit) → Option ρ) : Nat → Int → List ((Int × (Int × Unit)) × (Int × (Int × (Int × (Bool × (Int × (Int × Unit))))))) → Int → Int → List (Int × ((Int × (Int × Unit)) × ((Int × ((List Int) × (Int × (Int × (Int × Unit))))) × Unit))) → Int → List ((Int × (Int × Unit)) × ((Int × ((List Int) × (Int × (Int × (Int × Unit))))) × Unit)) → Option ρ
  | 0 => fun _ _ _ _ _ _ _ => none
  | n + 1 => fun x0 x1 x2 x3 x4 x5 x6 => 
    bif (decide ((x5 < (((List.length x4) : Nat) : Int)))) then
    (bif (Go.Dn.inB x5 (((List.length x4) : Nat) : Int)) then
      (Go.Dn.share (List.getD x4 (Int.toNat x5) ((0 : Int), (((0 : Int), ((0 : Int), ())), (((0 : Int), (([] : List Int), ((0 : Int), ((0 : Int), ((0 : Int), ()))))), ())))) fun s1 =>
        bif (s1.1 == x0) then
        (spec_l8Export.l4 k c0 n x0 x1 x2 x3 x4 (IntKind.wrap .i64 (x5 + (1 : Int))) x6)
        else bif (Go.Dn.inB x5 (((List.length x4) : Nat) : Int)) then
          (Go.Dn.share (List.getD x4 (Int.toNat x5) ((0 : Int), (((0 : Int), ((0 : Int), ())), (((0 : Int), (([] : List Int), ((0 : Int), ((0 : Int), ((0 : Int), ()))))), ())))) fun s2 =>
            bif (Go.Dn.inB x5 (((List.length x4) : Nat) : Int)) then
            (Go.Dn.share (List.getD x4 (Int.toNat x5) ((0 : Int), (((0 : Int), ((0 : Int), ())), (((0 : Int), (([] : List Int), ((0 : Int), ((0 : Int), ((0 : Int), ()))))), ())))) fun s3 =>
              (spec_l6Apply.F k (x1, x2, s2.2.1, s3.2.2)).bind fun y4 =>
              bif (y4.1.1.1 != (0 : Int)) then
              (spec_l8Export.l4 k c0 n x0 x1 x2 x3 x4 (IntKind.wrap .i64 (x5 + (1 : Int))) x6)
              else (spec_l6Export.F k (y4.1.1.2.2.1, x2, x3, ())).bind fun y5 =>
                bif y5.1.2.1 then
                (bif (Go.Dn.inB x5 (((List.length x4) : Nat) : Int)) then
                  (Go.Dn.share (List.getD x4 (Int.toNat x5) ((0 : Int), (((0 : Int), ((0 : Int), ())), (((0 : Int), (([] : List Int), ((0 : Int), ((0 : Int), ((0 : Int), ()))))), ())))) fun s6 =>
                    bif (Go.Dn.roomy ((List.length x6) + (List.length [(s6.2.1, y5.1.1, ())])) 72) then
                    (Go.Dn.share (x6 ++ [(s6.2.1, y5.1.1, ())]) fun s7 =>
                      spec_l8Export.l4 k c0 n x0 x1 x2 x3 x4 (IntKind.wrap .i64 (x5 + (1 : Int))) s7)
                    else none)
                  else none)
                else spec_l8Export.l4 k c0 n x0 x1 x2 x3 x4 (IntKind.wrap .i64 (x5 + (1 : Int))) x6)
            else none)
          else none)
      else none)
    else c0 (x6, ())
def spec_l8Export.F (k : Nat) (x : ((List (Int × ((Int × (Int × Unit)) × ((Int × ((List Int) × (Int × (Int × (Int × Unit))))) × Unit)))) × (Int × ((List ((Int × (Int × Unit)) × (Int × (Int × (Int × (Bool × (Int × (Int × Unit)))))))) × (Int × (Int × Unit)))))) : Option (((List ((Int × (Int × Unit)) × ((Int × ((List Int) × (Int × (Int × (Int × Unit))))) × Unit))) × Unit) × Unit) :=
  (spec_l7All.F k (x.1, ())).bind fun y0 =>
  spec_l8Export.l4 k (fun e8 =>
    some (e8, ())) k x.2.1 x.2.2.1 x.2.2.2.1 x.2.2.2.2.1 y0.1.1 (0 : Int) ([] : List ((Int × (Int × Unit)) × ((Int × ((List Int) × (Int × (Int × (Int × Unit))))) × Unit)))
def spec_l8Export.hd : Hints := ⟨[(4, ⟨[1, 2, 3, 4, 11, 12, 13], []⟩)], [(0, [11]), (1, [1, 2, 3, 4, 11, 12, 13])], [10], [0, 1, 2, 3, 4, 11, 12, 13, 14, 15, 16], [(7, [0, 0, 0, 0, 12, 28, 60, 0, 0, 384, 896, 1920, 4095, 0, 16383]), (11, [0, 0, 0, 6, 14, 30, 0, 126, 254, 511, 1023])]⟩
def spec_l8Export.lps (k : Nat) : List (Nat × Lp spec_l8Export.sg.Out) := [(4, ⟨[.i, .l kRule, .i, .i, .l kRoute, .i, .l kTold], fun x => (fun x0 x1 x2 x3 x4 x5 x6 => ⟨[(1, .v false [.int .i64 x0]), (2, .v false [.fz kRule x1]), (3, .v false [.int .i64 x2]), (4, .v false [.int .i64 x3]), (11, .v false [.arr 0]), (12, .v false [.fz kRoute x4]), (13, .v false [.int .i64 x5])], [(0, .arr kTold true false x6)], []⟩) x.1 x.2.1 x.2.2.1 x.2.2.2.1 x.2.2.2.2.1 x.2.2.2.2.2.1 x.2.2.2.2.2.2.1, fun C n x => spec_l8Export.l4 k (fun y => C (.exit 0) ((fun y0 => ⟨[(11, .v false [.arr 0])], [(0, .arr kTold true false y0)], []⟩) y.1)) n x.1 x.2.1 x.2.2.1 x.2.2.2.1 x.2.2.2.2.1 x.2.2.2.2.2.1 x.2.2.2.2.2.2.1⟩)]
theorem spec_l8Export.loops (k : Nat) : LoopsOk spec_l8Export.E k spec_l8Export.hd (spec_l8Export.lps k) (loopsOf (Go.Proofs.Try.f123.body.getD .skip)) := ⟨⟨fun _ _ => rfl, fun _ _ _ => by kernel_rfl, fun _ => ⟨rfl, rfl⟩⟩, trivial⟩
theorem spec_l8Export.den (k : Nat) (x : Sig.In spec_l8Export.sg.ps) : denFn spec_l8Export.E k Go.Proofs.Try.f123 spec_l8Export.sg spec_l8Export.hd (runL k spec_l8Export.hd (spec_l8Export.lps k)) x = spec_l8Export.F k x := by kernel_rfl
theorem spec_l8Export.ok (k : Nat) : Contract Try.prog 123 spec_l8Export.sg (spec_l8Export.F k) := ok_of (E := spec_l8Export.E) (tysOk _ _) (eqsOk _) ⟨spec_l7All.ok k, spec_l6Apply.ok k, spec_l6Export.ok k, trivial⟩ Try.func123 rfl (by kernel_rfl) (spec_l8Export.loops k) (spec_l8Export.den k)
def spec_ExportTo.sg : Sig := ⟨[.b (.sl kRoute), .b (.int .i64), .b (.sl kRule), .b (.int .i64), .b (.int .i64)], [(kToldResult, .fl)]⟩
def spec_ExportTo.E : Env := ⟨tys, bys, [(118, ⟨spec_RibFault.sg, spec_RibFault.F⟩), (119, ⟨spec_l7Peer.sg, spec_l7Peer.F⟩), (120, ⟨spec_RulesFault.sg, spec_RulesFault.F⟩), (121, ⟨spec_l1In.sg, spec_l1In.F⟩), (122, ⟨spec_l2Addr.sg, spec_l2Addr.F⟩), (123, ⟨spec_l8Export.sg, spec_l8Export.F⟩)], eqs⟩
def spec_ExportTo.F (k : Nat) (x : ((List (Int × ((Int × (Int × Unit)) × ((Int × ((List Int) × (Int × (Int × (Int × Unit))))) × Unit)))) × (Int × ((List ((Int × (Int × Unit)) × (Int × (Int × (Int × (Bool × (Int × (Int × Unit)))))))) × (Int × (Int × Unit)))))) : Option (((Int × ((List ((Int × (Int × Unit)) × ((Int × ((List Int) × (Int × (Int × (Int × Unit))))) × Unit))) × Unit)) × Unit) × Unit) :=
  (spec_RibFault.F k (x.1, ())).bind fun y0 =>
  bif (y0.1.1 != (0 : Int)) then
  (some (((y0.1.1, ([] : List ((Int × (Int × Unit)) × ((Int × ((List Int) × (Int × (Int × (Int × Unit))))) × Unit))), ()), ()), ()))
  else (spec_l7Peer.F k (x.2.1, ())).bind fun y1 =>
    bif (!y1.1.1) then
    (some ((((3 : Int), ([] : List ((Int × (Int × Unit)) × ((Int × ((List Int) × (Int × (Int × (Int × Unit))))) × Unit))), ()), ()), ()))
    else (spec_RulesFault.F k (x.2.2.1, ())).bind fun y2 =>
      bif (y2.1.1 != (0 : Int)) then
      (some (((y2.1.1, ([] : List ((Int × (Int × Unit)) × ((Int × ((List Int) × (Int × (Int × (Int × Unit))))) × Unit))), ()), ()), ()))
      else (spec_l1In.F k (x.2.2.2.1, (1 : Int), (65535 : Int), ())).bind fun y3 =>
        bif (!y3.1.1) then
        (some ((((3 : Int), ([] : List ((Int × (Int × Unit)) × ((Int × ((List Int) × (Int × (Int × (Int × Unit))))) × Unit))), ()), ()), ()))
        else (spec_l2Addr.F k x.2.2.2.2).bind fun y4 =>
          bif (!y4.1.1) then
          (some ((((3 : Int), ([] : List ((Int × (Int × Unit)) × ((Int × ((List Int) × (Int × (Int × (Int × Unit))))) × Unit))), ()), ()), ()))
          else (spec_l8Export.F k x).bind fun y5 =>
            some ((((0 : Int), y5.1), ()), ())
def spec_ExportTo.hd : Hints := ⟨[], [], [10], [0, 1, 2, 3, 4, 10, 11, 12], []⟩
def spec_ExportTo.lps (k : Nat) : List (Nat × Lp spec_ExportTo.sg.Out) := []
theorem spec_ExportTo.loops (k : Nat) : LoopsOk spec_ExportTo.E k spec_ExportTo.hd (spec_ExportTo.lps k) (loopsOf (Go.Proofs.Try.f27.body.getD .skip)) := trivial
theorem spec_ExportTo.den (k : Nat) (x : Sig.In spec_ExportTo.sg.ps) : denFn spec_ExportTo.E k Go.Proofs.Try.f27 spec_ExportTo.sg spec_ExportTo.hd (runL k spec_ExportTo.hd (spec_ExportTo.lps k)) x = spec_ExportTo.F k x := by kernel_rfl
theorem spec_ExportTo.ok (k : Nat) : Contract Try.prog 27 spec_ExportTo.sg (spec_ExportTo.F k) := ok_of (E := spec_ExportTo.E) (tysOk _ _) (eqsOk _) ⟨spec_RibFault.ok k, spec_l7Peer.ok k, spec_RulesFault.ok k, spec_l1In.ok k, spec_l2Addr.ok k, spec_l8Export.ok k, trivial⟩ Try.func27 rfl (by kernel_rfl) (spec_ExportTo.loops k) (spec_ExportTo.den k)
def laws_szInt64S.sg : Sig := ⟨[.b (.sl (.int .i64)), .b (.int .i64)], [((.int .i64), .rd)]⟩
def laws_szInt64S.E : Env := ⟨tys, bys, [], eqs⟩
def laws_szInt64S.F (k : Nat) (x : ((List Int) × (Int × Unit))) : Option ((Int × Unit) × Unit) :=
  bif (decide (((IntKind.wrap .i64 (x.2.1 - (((List.length x.1) : Nat) : Int))) < (0 : Int)))) then
  (some (((-(1 : Int)), ()), ()))
  else some (((IntKind.wrap .i64 (x.2.1 - (((List.length x.1) : Nat) : Int))), ()), ())
def laws_szInt64S.hd : Hints := ⟨[], [], [4], [0, 1], []⟩
def laws_szInt64S.lps (k : Nat) : List (Nat × Lp laws_szInt64S.sg.Out) := []
theorem laws_szInt64S.loops (k : Nat) : LoopsOk laws_szInt64S.E k laws_szInt64S.hd (laws_szInt64S.lps k) (loopsOf (Go.Proofs.Try.f303.body.getD .skip)) := trivial
theorem laws_szInt64S.den (k : Nat) (x : Sig.In laws_szInt64S.sg.ps) : denFn laws_szInt64S.E k Go.Proofs.Try.f303 laws_szInt64S.sg laws_szInt64S.hd (runL k laws_szInt64S.hd (laws_szInt64S.lps k)) x = laws_szInt64S.F k x := by kernel_rfl
theorem laws_szInt64S.ok (k : Nat) : Contract Try.prog 303 laws_szInt64S.sg (laws_szInt64S.F k) := ok_of (E := laws_szInt64S.E) (tysOk _ _) (eqsOk _) trivial Try.func303 rfl (by kernel_rfl) (laws_szInt64S.loops k) (laws_szInt64S.den k)
def laws_szAttrs.sg : Sig := ⟨[.b kAttrs, .b (.int .i64)], [((.int .i64), .rd)]⟩
def laws_szAttrs.E : Env := ⟨tys, bys, [(303, ⟨laws_szInt64S.sg, laws_szInt64S.F⟩)], eqs⟩
def laws_szAttrs.F (k : Nat) (x : ((Int × ((List Int) × (Int × (Int × (Int × Unit))))) × (Int × Unit))) : Option ((Int × Unit) × Unit) :=
  (laws_szInt64S.F k (x.1.2.1, x.2)).bind fun y0 =>
  bif (decide ((y0.1.1 < (0 : Int)))) then
  (some (((-(1 : Int)), ()), ()))
  else some y0
def laws_szAttrs.hd : Hints := ⟨[], [], [4], [0, 1, 2], []⟩
def laws_szAttrs.lps (k : Nat) : List (Nat × Lp laws_szAttrs.sg.Out) := []
theorem laws_szAttrs.loops (k : Nat) : LoopsOk laws_szAttrs.E k laws_szAttrs.hd (laws_szAttrs.lps k) (loopsOf (Go.Proofs.Try.f242.body.getD .skip)) := trivial
theorem laws_szAttrs.den (k : Nat) (x : Sig.In laws_szAttrs.sg.ps) : denFn laws_szAttrs.E k Go.Proofs.Try.f242 laws_szAttrs.sg laws_szAttrs.hd (runL k laws_szAttrs.hd (laws_szAttrs.lps k)) x = laws_szAttrs.F k x := by kernel_rfl
theorem laws_szAttrs.ok (k : Nat) : Contract Try.prog 242 laws_szAttrs.sg (laws_szAttrs.F k) := ok_of (E := laws_szAttrs.E) (tysOk _ _) (eqsOk _) ⟨laws_szInt64S.ok k, trivial⟩ Try.func242 rfl (by kernel_rfl) (laws_szAttrs.loops k) (laws_szAttrs.den k)
def laws_toPrefix.sg : Sig := ⟨[.b kPrefix], [(kPrefix, .rd)]⟩
def laws_toPrefix.E : Env := ⟨tys, bys, [], eqs⟩
def laws_toPrefix.F (k : Nat) (x : ((Int × (Int × Unit)) × Unit)) : Option (((Int × (Int × Unit)) × Unit) × Unit) :=
  some (x, ())
def laws_toPrefix.hd : Hints := ⟨[], [], [2], [0, 1, 2, 3], []⟩
def laws_toPrefix.lps (k : Nat) : List (Nat × Lp laws_toPrefix.sg.Out) := []
theorem laws_toPrefix.loops (k : Nat) : LoopsOk laws_toPrefix.E k laws_toPrefix.hd (laws_toPrefix.lps k) (loopsOf (Go.Proofs.Try.f246.body.getD .skip)) := trivial
theorem laws_toPrefix.den (k : Nat) (x : Sig.In laws_toPrefix.sg.ps) : denFn laws_toPrefix.E k Go.Proofs.Try.f246 laws_toPrefix.sg laws_toPrefix.hd (runL k laws_toPrefix.hd (laws_toPrefix.lps k)) x = laws_toPrefix.F k x := by kernel_rfl
theorem laws_toPrefix.ok (k : Nat) : Contract Try.prog 246 laws_toPrefix.sg (laws_toPrefix.F k) := ok_of (E := laws_toPrefix.E) (tysOk _ _) (eqsOk _) trivial Try.func246 rfl (by kernel_rfl) (laws_toPrefix.loops k) (laws_toPrefix.den k)
def laws_toInt64S.sg : Sig := ⟨[.b (.sl (.int .i64))], [((.sl (.int .i64)), .dp)]⟩
def laws_toInt64S.E : Env := ⟨tys, bys, [], eqs⟩
def laws_toInt64S.l3 {ρ : Type} (k : Nat) (c0 : (List Int × Unit) → Option ρ) : Nat → List Int → Int → List Int → Option ρ
  | 0 => fun _ _ _ => none
  | n + 1 => fun x0 x1 x2 => 
    bif (decide ((x1 < (((List.length x0) : Nat) : Int)))) then
    (bif (Go.Dn.inB x1 (((List.length x0) : Nat) : Int)) then
      (Go.Dn.share (List.getD x0 (Int.toNat x1) (0 : Int)) fun s0 =>
        bif (Go.Dn.inB x1 (((List.length x2) : Nat) : Int)) then
        (Go.Dn.share (List.set x2 (Int.toNat x1) s0) fun s1 =>
          laws_toInt64S.l3 k c0 n x0 (IntKind.wrap .i64 (x1 + (1 : Int))) s1)
        else none)
      else none)
    else c0 (x2, ())
def laws_toInt64S.F (k : Nat) (x : ((List Int) × Unit)) : Option (((List Int) × Unit) × Unit) :=
  bif (decide (((((List.length x.1) : Nat) : Int) ≤ (((List.length x.1) : Nat) : Int)))) then
  (bif (Go.Dn.roomy (Int.toNat (((List.length x.1) : Nat) : Int)) 8) then
    (laws_toInt64S.l3 k (fun e2 =>
        some (e2, ())) k x.1 (0 : Int) (List.replicate (Int.toNat (((List.length x.1) : Nat) : Int)) (0 : Int)))
    else none)
  else none
def laws_toInt64S.hd : Hints := ⟨[(3, ⟨[0, 3, 4], []⟩)], [(0, [3]), (1, [0, 3, 4])], [2], [0, 3, 4], []⟩
def laws_toInt64S.lps (k : Nat) : List (Nat × Lp laws_toInt64S.sg.Out) := [(3, ⟨[.l (.int .i64), .i, .l (.int .i64)], fun x => (fun x0 x1 x2 => ⟨[(0, .v false [.fz (.int .i64) x0]), (3, .v false [.arr 0]), (4, .v false [.int .i64 x1])], [(0, .arr (.int .i64) true false x2)], []⟩) x.1 x.2.1 x.2.2.1, fun C n x => laws_toInt64S.l3 k (fun y => C (.exit 0) ((fun y0 => ⟨[(3, .v false [.arr 0])], [(0, .arr (.int .i64) true false y0)], []⟩) y.1)) n x.1 x.2.1 x.2.2.1⟩)]
theorem laws_toInt64S.loops (k : Nat) : LoopsOk laws_toInt64S.E k laws_toInt64S.hd (laws_toInt64S.lps k) (loopsOf (Go.Proofs.Try.f304.body.getD .skip)) := ⟨⟨fun _ _ => rfl, fun _ _ _ => by kernel_rfl, fun _ => ⟨rfl, rfl⟩⟩, trivial⟩
theorem laws_toInt64S.den (k : Nat) (x : Sig.In laws_toInt64S.sg.ps) : denFn laws_toInt64S.E k Go.Proofs.Try.f304 laws_toInt64S.sg laws_toInt64S.hd (runL k laws_toInt64S.hd (laws_toInt64S.lps k)) x = laws_toInt64S.F k x := by kernel_rfl
theorem laws_toInt64S.ok (k : Nat) : Contract Try.prog 304 laws_toInt64S.sg (laws_toInt64S.F k) := ok_of (E := laws_toInt64S.E) (tysOk _ _) (eqsOk _) trivial Try.func304 rfl (by kernel_rfl) (laws_toInt64S.loops k) (laws_toInt64S.den k)
def laws_toAttrs.sg : Sig := ⟨[.b kAttrs], [(kAttrs, .dp)]⟩
def laws_toAttrs.E : Env := ⟨tys, bys, [(304, ⟨laws_toInt64S.sg, laws_toInt64S.F⟩)], eqs⟩
def laws_toAttrs.F (k : Nat) (x : ((Int × ((List Int) × (Int × (Int × (Int × Unit))))) × Unit)) : Option (((Int × ((List Int) × (Int × (Int × (Int × Unit))))) × Unit) × Unit) :=
  (laws_toInt64S.F k (x.1.2.1, ())).bind fun y0 =>
  some (((x.1.1, y0.1.1, x.1.2.2), ()), ())
def laws_toAttrs.hd : Hints := ⟨[], [], [2], [0, 1, 2, 3], []⟩
def laws_toAttrs.lps (k : Nat) : List (Nat × Lp laws_toAttrs.sg.Out) := []
theorem laws_toAttrs.loops (k : Nat) : LoopsOk laws_toAttrs.E k laws_toAttrs.hd (laws_toAttrs.lps k) (loopsOf (Go.Proofs.Try.f247.body.getD .skip)) := trivial
theorem laws_toAttrs.den (k : Nat) (x : Sig.In laws_toAttrs.sg.ps) : denFn laws_toAttrs.E k Go.Proofs.Try.f247 laws_toAttrs.sg laws_toAttrs.hd (runL k laws_toAttrs.hd (laws_toAttrs.lps k)) x = laws_toAttrs.F k x := by kernel_rfl
theorem laws_toAttrs.ok (k : Nat) : Contract Try.prog 247 laws_toAttrs.sg (laws_toAttrs.F k) := ok_of (E := laws_toAttrs.E) (tysOk _ _) (eqsOk _) ⟨laws_toInt64S.ok k, trivial⟩ Try.func247 rfl (by kernel_rfl) (laws_toAttrs.loops k) (laws_toAttrs.den k)
def laws_eqPrefix.sg : Sig := ⟨[.b kPrefix, .b kPrefix], [(.bool, .rd)]⟩
def laws_eqPrefix.E : Env := ⟨tys, bys, [], eqs⟩
def laws_eqPrefix.F (k : Nat) (x : ((Int × (Int × Unit)) × ((Int × (Int × Unit)) × Unit))) : Option ((Bool × Unit) × Unit) :=
  bif (x.1.1 != x.2.1.1) then
  (some ((false, ()), ()))
  else bif (x.1.2.1 != x.2.1.2.1) then
    (some ((false, ()), ()))
    else some ((true, ()), ())
def laws_eqPrefix.hd : Hints := ⟨[], [], [4], [0, 1, 2, 3], []⟩
def laws_eqPrefix.lps (k : Nat) : List (Nat × Lp laws_eqPrefix.sg.Out) := []
theorem laws_eqPrefix.loops (k : Nat) : LoopsOk laws_eqPrefix.E k laws_eqPrefix.hd (laws_eqPrefix.lps k) (loopsOf (Go.Proofs.Try.f249.body.getD .skip)) := trivial
theorem laws_eqPrefix.den (k : Nat) (x : Sig.In laws_eqPrefix.sg.ps) : denFn laws_eqPrefix.E k Go.Proofs.Try.f249 laws_eqPrefix.sg laws_eqPrefix.hd (runL k laws_eqPrefix.hd (laws_eqPrefix.lps k)) x = laws_eqPrefix.F k x := by kernel_rfl
theorem laws_eqPrefix.ok (k : Nat) : Contract Try.prog 249 laws_eqPrefix.sg (laws_eqPrefix.F k) := ok_of (E := laws_eqPrefix.E) (tysOk _ _) (eqsOk _) trivial Try.func249 rfl (by kernel_rfl) (laws_eqPrefix.loops k) (laws_eqPrefix.den k)
def laws_eqInt64S.sg : Sig := ⟨[.b (.sl (.int .i64)), .b (.sl (.int .i64))], [(.bool, .rd)]⟩
def laws_eqInt64S.E : Env := ⟨tys, bys, [], eqs⟩
def laws_eqInt64S.l4 {ρ : Type} (k : Nat) (c0 : (Bool × Unit) → Option ρ) (c1 : Unit → Option ρ) : Nat → List Int → List Int → Int → Option ρ
  | 0 => fun _ _ _ => none
  | n + 1 => fun x0 x1 x2 => 
    bif (decide ((x2 < (((List.length x0) : Nat) : Int)))) then
    (bif (Go.Dn.inB x2 (((List.length x0) : Nat) : Int)) then
      (Go.Dn.share (List.getD x0 (Int.toNat x2) (0 : Int)) fun s0 =>
        bif (Go.Dn.inB x2 (((List.length x1) : Nat) : Int)) then
        (Go.Dn.share (List.getD x1 (Int.toNat x2) (0 : Int)) fun s1 =>
          bif (s0 != s1) then
          (c0 (false, ()))
          else laws_eqInt64S.l4 k c0 c1 n x0 x1 (IntKind.wrap .i64 (x2 + (1 : Int))))
        else none)
      else none)
    else c1 (())
def laws_eqInt64S.F (k : Nat) (x : ((List Int) × ((List Int) × Unit))) : Option ((Bool × Unit) × Unit) :=
  bif ((((List.length x.1) : Nat) : Int) != (((List.length x.2.1) : Nat) : Int)) then
  (some ((false, ()), ()))
  else laws_eqInt64S.l4 k (fun e2 =>
      some (e2, ())) (fun e3 =>
      some ((true, ()), ())) k x.1 x.2.1 (0 : Int)
def laws_eqInt64S.hd : Hints := ⟨[(4, ⟨[0, 1, 5], []⟩)], [(0, []), (1, [0, 1, 5])], [4], [0, 1, 5], [(6, [0, 0, 3, 7, 0, 0, 48, 112, 255])]⟩
def laws_eqInt64S.lps (k : Nat) : List (Nat × Lp laws_eqInt64S.sg.Out) := [(4, ⟨[.l (.int .i64), .l (.int .i64), .i], fun x => (fun x0 x1 x2 => ⟨[(0, .v false [.fz (.int .i64) x0]), (1, .v false [.fz (.int .i64) x1]), (5, .v false [.int .i64 x2])], [], []⟩) x.1 x.2.1 x.2.2.1, fun C n x => laws_eqInt64S.l4 k (fun y => C .ret ((fun y0 => ⟨[(4, .v false [.bool y0])], [], []⟩) y.1)) (fun _ => C (.exit 0) ⟨[], [], []⟩) n x.1 x.2.1 x.2.2.1⟩)]
theorem laws_eqInt64S.loops (k : Nat) : LoopsOk laws_eqInt64S.E k laws_eqInt64S.hd (laws_eqInt64S.lps k) (loopsOf (Go.Proofs.Try.f305.body.getD .skip)) := ⟨⟨fun _ _ => rfl, fun _ _ _ => by kernel_rfl, fun _ => ⟨rfl, rfl⟩⟩, trivial⟩
theorem laws_eqInt64S.den (k : Nat) (x : Sig.In laws_eqInt64S.sg.ps) : denFn laws_eqInt64S.E k Go.Proofs.Try.f305 laws_eqInt64S.sg laws_eqInt64S.hd (runL k laws_eqInt64S.hd (laws_eqInt64S.lps k)) x = laws_eqInt64S.F k x := by kernel_rfl
theorem laws_eqInt64S.ok (k : Nat) : Contract Try.prog 305 laws_eqInt64S.sg (laws_eqInt64S.F k) := ok_of (E := laws_eqInt64S.E) (tysOk _ _) (eqsOk _) trivial Try.func305 rfl (by kernel_rfl) (laws_eqInt64S.loops k) (laws_eqInt64S.den k)
def laws_eqAttrs.sg : Sig := ⟨[.b kAttrs, .b kAttrs], [(.bool, .rd)]⟩
def laws_eqAttrs.E : Env := ⟨tys, bys, [(305, ⟨laws_eqInt64S.sg, laws_eqInt64S.F⟩)], eqs⟩
def laws_eqAttrs.F (k : Nat) (x : ((Int × ((List Int) × (Int × (Int × (Int × Unit))))) × ((Int × ((List Int) × (Int × (Int × (Int × Unit))))) × Unit))) : Option ((Bool × Unit) × Unit) :=
  bif (x.1.1 != x.2.1.1) then
  (some ((false, ()), ()))
  else (laws_eqInt64S.F k (x.1.2.1, x.2.1.2.1, ())).bind fun y0 =>
    bif (!y0.1.1) then
    (some ((false, ()), ()))
    else bif (x.1.2.2.1 != x.2.1.2.2.1) then
      (some ((false, ()), ()))
      else bif (x.1.2.2.2.1 != x.2.1.2.2.2.1) then
        (some ((false, ()), ()))
        else bif (x.1.2.2.2.2.1 != x.2.1.2.2.2.2.1) then
          (some ((false, ()), ()))
          else some ((true, ()), ())
def laws_eqAttrs.hd : Hints := ⟨[], [], [4], [0, 1, 2, 3], []⟩
def laws_eqAttrs.lps (k : Nat) : List (Nat × Lp laws_eqAttrs.sg.Out) := []
theorem laws_eqAttrs.loops (k : Nat) : LoopsOk laws_eqAttrs.E k laws_eqAttrs.hd (laws_eqAttrs.lps k) (loopsOf (Go.Proofs.Try.f250.body.getD .skip)) := trivial
theorem laws_eqAttrs.den (k : Nat) (x : Sig.In laws_eqAttrs.sg.ps) : denFn laws_eqAttrs.E k Go.Proofs.Try.f250 laws_eqAttrs.sg laws_eqAttrs.hd (runL k laws_eqAttrs.hd (laws_eqAttrs.lps k)) x = laws_eqAttrs.F k x := by kernel_rfl
theorem laws_eqAttrs.ok (k : Nat) : Contract Try.prog 250 laws_eqAttrs.sg (laws_eqAttrs.F k) := ok_of (E := laws_eqAttrs.E) (tysOk _ _) (eqsOk _) ⟨laws_eqInt64S.ok k, trivial⟩ Try.func250 rfl (by kernel_rfl) (laws_eqAttrs.loops k) (laws_eqAttrs.den k)
def laws_eqTold.sg : Sig := ⟨[.b kTold, .b kTold], [(.bool, .rd)]⟩
def laws_eqTold.E : Env := ⟨tys, bys, [(249, ⟨laws_eqPrefix.sg, laws_eqPrefix.F⟩), (250, ⟨laws_eqAttrs.sg, laws_eqAttrs.F⟩)], eqs⟩
def laws_eqTold.F (k : Nat) (x : (((Int × (Int × Unit)) × ((Int × ((List Int) × (Int × (Int × (Int × Unit))))) × Unit)) × (((Int × (Int × Unit)) × ((Int × ((List Int) × (Int × (Int × (Int × Unit))))) × Unit)) × Unit))) : Option ((Bool × Unit) × Unit) :=
  (laws_eqPrefix.F k (x.1.1, x.2.1.1, ())).bind fun y0 =>
  bif (!y0.1.1) then
  (some ((false, ()), ()))
  else (laws_eqAttrs.F k (x.1.2.1, x.2.1.2)).bind fun y1 =>
    bif (!y1.1.1) then
    (some ((false, ()), ()))
    else some ((true, ()), ())
def laws_eqTold.hd : Hints := ⟨[], [], [4], [0, 1, 2, 3], []⟩
def laws_eqTold.lps (k : Nat) : List (Nat × Lp laws_eqTold.sg.Out) := []
theorem laws_eqTold.loops (k : Nat) : LoopsOk laws_eqTold.E k laws_eqTold.hd (laws_eqTold.lps k) (loopsOf (Go.Proofs.Try.f145.body.getD .skip)) := trivial
theorem laws_eqTold.den (k : Nat) (x : Sig.In laws_eqTold.sg.ps) : denFn laws_eqTold.E k Go.Proofs.Try.f145 laws_eqTold.sg laws_eqTold.hd (runL k laws_eqTold.hd (laws_eqTold.lps k)) x = laws_eqTold.F k x := by kernel_rfl
theorem laws_eqTold.ok (k : Nat) : Contract Try.prog 145 laws_eqTold.sg (laws_eqTold.F k) := ok_of (E := laws_eqTold.E) (tysOk _ _) (eqsOk _) ⟨laws_eqPrefix.ok k, laws_eqAttrs.ok k, trivial⟩ Try.func145 rfl (by kernel_rfl) (laws_eqTold.loops k) (laws_eqTold.den k)
def laws_eqToldS.sg : Sig := ⟨[.b (.sl kTold), .b (.sl kTold)], [(.bool, .rd)]⟩
def laws_eqToldS.E : Env := ⟨tys, bys, [(145, ⟨laws_eqTold.sg, laws_eqTold.F⟩)], eqs⟩
def laws_eqToldS.l4 {ρ : Type} (k : Nat) (c0 : (Bool × Unit) → Option ρ) (c1 : Unit → Option ρ) : Nat → List ((Int × (Int × Unit)) × ((Int × ((List Int) × (Int × (Int × (Int × Unit))))) × Unit)) → List ((Int × (Int × Unit)) × ((Int × ((List Int) × (Int × (Int × (Int × Unit))))) × Unit)) → Int → Option ρ
  | 0 => fun _ _ _ => none
  | n + 1 => fun x0 x1 x2 => 
    bif (decide ((x2 < (((List.length x0) : Nat) : Int)))) then
    (bif (Go.Dn.inB x2 (((List.length x0) : Nat) : Int)) then
      (Go.Dn.share (List.getD x0 (Int.toNat x2) (((0 : Int), ((0 : Int), ())), (((0 : Int), (([] : List Int), ((0 : Int), ((0 : Int), ((0 : Int), ()))))), ()))) fun s0 =>
        bif (Go.Dn.inB x2 (((List.length x1) : Nat) : Int)) then
        (Go.Dn.share (List.getD x1 (Int.toNat x2) (((0 : Int), ((0 : Int), ())), (((0 : Int), (([] : List Int), ((0 : Int), ((0 : Int), ((0 : Int), ()))))), ()))) fun s1 =>
          (laws_eqTold.F k (s0, s1, ())).bind fun y2 =>
          bif (!y2.1.1) then
          (c0 (false, ()))
          else laws_eqToldS.l4 k c0 c1 n x0 x1 (IntKind.wrap .i64 (x2 + (1 : Int))))
        else none)
      else none)
    else c1 (())
def laws_eqToldS.F (k : Nat) (x : ((List ((Int × (Int × Unit)) × ((Int × ((List Int) × (Int × (Int × (Int × Unit))))) × Unit))) × ((List ((Int × (Int × Unit)) × ((Int × ((List Int) × (Int × (Int × (Int × Unit))))) × Unit))) × Unit))) : Option ((Bool × Unit) × Unit) :=
  bif ((((List.length x.1) : Nat) : Int) != (((List.length x.2.1) : Nat) : Int)) then
  (some ((false, ()), ()))
  else laws_eqToldS.l4 k (fun e3 =>
      some (e3, ())) (fun e4 =>
      some ((true, ()), ())) k x.1 x.2.1 (0 : Int)
def laws_eqToldS.hd : Hints := ⟨[(4, ⟨[0, 1, 5], []⟩)], [(0, []), (1, [0, 1, 5])], [4], [0, 1, 5], [(6, [0, 0, 3, 7, 0, 0, 48, 112, 255, 511])]⟩
def laws_eqToldS.lps (k : Nat) : List (Nat × Lp laws_eqToldS.sg.Out) := [(4, ⟨[.l kTold, .l kTold, .i], fun x => (fun x0 x1 x2 => ⟨[(0, .v false [.fz kTold x0]), (1, .v false [.fz kTold x1]), (5, .v false [.int .i64 x2])], [], []⟩) x.1 x.2.1 x.2.2.1, fun C n x => laws_eqToldS.l4 k (fun y => C .ret ((fun y0 => ⟨[(4, .v false [.bool y0])], [], []⟩) y.1)) (fun _ => C (.exit 0) ⟨[], [], []⟩) n x.1 x.2.1 x.2.2.1⟩)]
theorem laws_eqToldS.loops (k : Nat) : LoopsOk laws_eqToldS.E k laws_eqToldS.hd (laws_eqToldS.lps k) (loopsOf (Go.Proofs.Try.f47.body.getD .skip)) := ⟨⟨fun _ _ => rfl, fun _ _ _ => by kernel_rfl, fun _ => ⟨rfl, rfl⟩⟩, trivial⟩
theorem laws_eqToldS.den (k : Nat) (x : Sig.In laws_eqToldS.sg.ps) : denFn laws_eqToldS.E k Go.Proofs.Try.f47 laws_eqToldS.sg laws_eqToldS.hd (runL k laws_eqToldS.hd (laws_eqToldS.lps k)) x = laws_eqToldS.F k x := by kernel_rfl
theorem laws_eqToldS.ok (k : Nat) : Contract Try.prog 47 laws_eqToldS.sg (laws_eqToldS.F k) := ok_of (E := laws_eqToldS.E) (tysOk _ _) (eqsOk _) ⟨laws_eqTold.ok k, trivial⟩ Try.func47 rfl (by kernel_rfl) (laws_eqToldS.loops k) (laws_eqToldS.den k)
def laws_eqToldResult.sg : Sig := ⟨[.b kToldResult, .b kToldResult], [(.bool, .rd)]⟩
def laws_eqToldResult.E : Env := ⟨tys, bys, [(47, ⟨laws_eqToldS.sg, laws_eqToldS.F⟩)], eqs⟩
def laws_eqToldResult.F (k : Nat) (x : ((Int × ((List ((Int × (Int × Unit)) × ((Int × ((List Int) × (Int × (Int × (Int × Unit))))) × Unit))) × Unit)) × ((Int × ((List ((Int × (Int × Unit)) × ((Int × ((List Int) × (Int × (Int × (Int × Unit))))) × Unit))) × Unit)) × Unit))) : Option ((Bool × Unit) × Unit) :=
  bif (x.1.1 != x.2.1.1) then
  (some ((false, ()), ()))
  else (laws_eqToldS.F k (x.1.2.1, x.2.1.2)).bind fun y0 =>
    bif (!y0.1.1) then
    (some ((false, ()), ()))
    else some ((true, ()), ())
def laws_eqToldResult.hd : Hints := ⟨[], [], [4], [0, 1, 2, 3], []⟩
def laws_eqToldResult.lps (k : Nat) : List (Nat × Lp laws_eqToldResult.sg.Out) := []
theorem laws_eqToldResult.loops (k : Nat) : LoopsOk laws_eqToldResult.E k laws_eqToldResult.hd (laws_eqToldResult.lps k) (loopsOf (Go.Proofs.Try.f46.body.getD .skip)) := trivial
theorem laws_eqToldResult.den (k : Nat) (x : Sig.In laws_eqToldResult.sg.ps) : denFn laws_eqToldResult.E k Go.Proofs.Try.f46 laws_eqToldResult.sg laws_eqToldResult.hd (runL k laws_eqToldResult.hd (laws_eqToldResult.lps k)) x = laws_eqToldResult.F k x := by kernel_rfl
theorem laws_eqToldResult.ok (k : Nat) : Contract Try.prog 46 laws_eqToldResult.sg (laws_eqToldResult.F k) := ok_of (E := laws_eqToldResult.E) (tysOk _ _) (eqsOk _) ⟨laws_eqToldS.ok k, trivial⟩ Try.func46 rfl (by kernel_rfl) (laws_eqToldResult.loops k) (laws_eqToldResult.den k)
def laws_markInt64S.sg : Sig := ⟨[.m (.sl (.int .i64)), .b (.int .i64)], [((.int .i64), .rd)]⟩
def laws_markInt64S.E : Env := ⟨tys, bys, [], eqs⟩
def laws_markInt64S.l2 {ρ : Type} (k : Nat) (c0 : (Int × (List Int × Unit)) → Option ρ) : Nat → Int → Int → List Int → Option ρ
  | 0 => fun _ _ _ => none
  | n + 1 => fun x0 x1 x2 => 
    bif (decide ((x1 < (((List.length x2) : Nat) : Int)))) then
    (bif (Go.Dn.inB x1 (((List.length x2) : Nat) : Int)) then
      (Go.Dn.share (List.set x2 (Int.toNat x1) x0) fun s0 =>
        laws_markInt64S.l2 k c0 n (IntKind.wrap .i64 (x0 + (1 : Int))) (IntKind.wrap .i64 (x1 + (1 : Int))) s0)
      else none)
    else c0 (x0, x2, ())
def laws_markInt64S.F (k : Nat) (x : ((List Int) × (Int × Unit))) : Option ((Int × Unit) × ((List Int) × Unit)) :=
  laws_markInt64S.l2 k (fun e1 =>
    some ((e1.1, ()), e1.2)) k x.2.1 (0 : Int) x.1
def laws_markInt64S.hd : Hints := ⟨[(2, ⟨[0, 1, 5], []⟩)], [(0, [1]), (1, [0, 1, 5])], [4], [0, 1, 5], []⟩
def laws_markInt64S.lps (k : Nat) : List (Nat × Lp laws_markInt64S.sg.Out) := [(2, ⟨[.i, .i, .l (.int .i64)], fun x => (fun x0 x1 x2 => ⟨[(0, .v false [.arr 0]), (1, .v false [.int .i64 x0]), (5, .v false [.int .i64 x1])], [(0, .arr (.int .i64) true false x2)], [.arr 0]⟩) x.1 x.2.1 x.2.2.1, fun C n x => laws_markInt64S.l2 k (fun y => C (.exit 0) ((fun y0 y1 => ⟨[(1, .v false [.int .i64 y0])], [(0, .arr (.int .i64) true false y1)], [.arr 0]⟩) y.1 y.2.1)) n x.1 x.2.1 x.2.2.1⟩)]
theorem laws_markInt64S.loops (k : Nat) : LoopsOk laws_markInt64S.E k laws_markInt64S.hd (laws_markInt64S.lps k) (loopsOf (Go.Proofs.Try.f147.body.getD .skip)) := ⟨⟨fun _ _ => rfl, fun _ _ _ => by kernel_rfl, fun _ => ⟨rfl, rfl⟩⟩, trivial⟩
theorem laws_markInt64S.den (k : Nat) (x : Sig.In laws_markInt64S.sg.ps) : denFn laws_markInt64S.E k Go.Proofs.Try.f147 laws_markInt64S.sg laws_markInt64S.hd (runL k laws_markInt64S.hd (laws_markInt64S.lps k)) x = laws_markInt64S.F k x := by kernel_rfl
theorem laws_markInt64S.ok (k : Nat) : Contract Try.prog 147 laws_markInt64S.sg (laws_markInt64S.F k) := ok_of (E := laws_markInt64S.E) (tysOk _ _) (eqsOk _) trivial Try.func147 rfl (by kernel_rfl) (laws_markInt64S.loops k) (laws_markInt64S.den k)
def laws_markToldS.sg : Sig := ⟨[.m (.sl kTold), .b (.int .i64)], [((.int .i64), .rd)]⟩
def laws_markToldS.E : Env := ⟨tys, bys, [(147, ⟨laws_markInt64S.sg, laws_markInt64S.F⟩)], eqs⟩
def laws_markToldS.l2 {ρ : Type} (k : Nat) (c0 : (Int × (List ((Int × (Int × Unit)) × ((Int × ((List Int) × (Int × (Int × (Int × Unit))))) × Unit)) × Unit)) → Option ρ) : Nat → Int → Int → List ((Int × (Int × Unit)) × ((Int × ((List Int) × (Int × (Int × (Int × Unit))))) × Unit)) → Option ρ
  | 0 => fun _ _ _ => none
  | n + 1 => fun x0 x1 x2 => 
    bif (decide ((x1 < (((List.length x2) : Nat) : Int)))) then
    (bif (Go.Dn.inB x1 (((List.length x2) : Nat) : Int)) then
      (Go.Dn.share (List.set x2 (Int.toNat x1) ((x0, (List.getD x2 (Int.toNat x1) (((0 : Int), ((0 : Int), ())), (((0 : Int), (([] : List Int), ((0 : Int), ((0 : Int), ((0 : Int), ()))))), ()))).1.2), (List.getD x2 (Int.toNat x1) (((0 : Int), ((0 : Int), ())), (((0 : Int), (([] : List Int), ((0 : Int), ((0 : Int), ((0 : Int), ()))))), ()))).2)) fun s0 =>
        bif (Go.Dn.inB x1 (((List.length s0) : Nat) : Int)) then
        (Go.Dn.share (List.set s0 (Int.toNat x1) (((List.getD s0 (Int.toNat x1) (((0 : Int), ((0 : Int), ())), (((0 : Int), (([] : List Int), ((0 : Int), ((0 : Int), ((0 : Int), ()))))), ()))).1.1, (IntKind.wrap .i64 (x0 + (1 : Int))), (List.getD s0 (Int.toNat x1) (((0 : Int), ((0 : Int), ())), (((0 : Int), (([] : List Int), ((0 : Int), ((0 : Int), ((0 : Int), ()))))), ()))).1.2.2), (List.getD s0 (Int.toNat x1) (((0 : Int), ((0 : Int), ())), (((0 : Int), (([] : List Int), ((0 : Int), ((0 : Int), ((0 : Int), ()))))), ()))).2)) fun s1 =>
          bif (Go.Dn.inB x1 (((List.length s1) : Nat) : Int)) then
          (Go.Dn.share (List.set s1 (Int.toNat x1) ((List.getD s1 (Int.toNat x1) (((0 : Int), ((0 : Int), ())), (((0 : Int), (([] : List Int), ((0 : Int), ((0 : Int), ((0 : Int), ()))))), ()))).1, ((IntKind.wrap .i64 ((IntKind.wrap .i64 (x0 + (1 : Int))) + (1 : Int))), (List.getD s1 (Int.toNat x1) (((0 : Int), ((0 : Int), ())), (((0 : Int), (([] : List Int), ((0 : Int), ((0 : Int), ((0 : Int), ()))))), ()))).2.1.2), (List.getD s1 (Int.toNat x1) (((0 : Int), ((0 : Int), ())), (((0 : Int), (([] : List Int), ((0 : Int), ((0 : Int), ((0 : Int), ()))))), ()))).2.2)) fun s2 =>
            bif (Go.Dn.inB x1 (((List.length s2) : Nat) : Int)) then
            ((laws_markInt64S.F k ((List.getD s2 (Int.toNat x1) (((0 : Int), ((0 : Int), ())), (((0 : Int), (([] : List Int), ((0 : Int), ((0 : Int), ((0 : Int), ()))))), ()))).2.1.2.1, (IntKind.wrap .i64 ((IntKind.wrap .i64 ((IntKind.wrap .i64 (x0 + (1 : Int))) + (1 : Int))) + (1 : Int))), ())).bind fun y3 =>
              Go.Dn.share (List.set s2 (Int.toNat x1) ((List.getD s2 (Int.toNat x1) (((0 : Int), ((0 : Int), ())), (((0 : Int), (([] : List Int), ((0 : Int), ((0 : Int), ((0 : Int), ()))))), ()))).1, ((List.getD s2 (Int.toNat x1) (((0 : Int), ((0 : Int), ())), (((0 : Int), (([] : List Int), ((0 : Int), ((0 : Int), ((0 : Int), ()))))), ()))).2.1.1, y3.2.1, (List.getD s2 (Int.toNat x1) (((0 : Int), ((0 : Int), ())), (((0 : Int), (([] : List Int), ((0 : Int), ((0 : Int), ((0 : Int), ()))))), ()))).2.1.2.2), (List.getD s2 (Int.toNat x1) (((0 : Int), ((0 : Int), ())), (((0 : Int), (([] : List Int), ((0 : Int), ((0 : Int), ((0 : Int), ()))))), ()))).2.2)) fun s4 =>
              bif (Go.Dn.inB x1 (((List.length s4) : Nat) : Int)) then
              (Go.Dn.share (List.set s4 (Int.toNat x1) ((List.getD s4 (Int.toNat x1) (((0 : Int), ((0 : Int), ())), (((0 : Int), (([] : List Int), ((0 : Int), ((0 : Int), ((0 : Int), ()))))), ()))).1, ((List.getD s4 (Int.toNat x1) (((0 : Int), ((0 : Int), ())), (((0 : Int), (([] : List Int), ((0 : Int), ((0 : Int), ((0 : Int), ()))))), ()))).2.1.1, (List.getD s4 (Int.toNat x1) (((0 : Int), ((0 : Int), ())), (((0 : Int), (([] : List Int), ((0 : Int), ((0 : Int), ((0 : Int), ()))))), ()))).2.1.2.1, y3.1.1, (List.getD s4 (Int.toNat x1) (((0 : Int), ((0 : Int), ())), (((0 : Int), (([] : List Int), ((0 : Int), ((0 : Int), ((0 : Int), ()))))), ()))).2.1.2.2.2), (List.getD s4 (Int.toNat x1) (((0 : Int), ((0 : Int), ())), (((0 : Int), (([] : List Int), ((0 : Int), ((0 : Int), ((0 : Int), ()))))), ()))).2.2)) fun s5 =>
                bif (Go.Dn.inB x1 (((List.length s5) : Nat) : Int)) then
                (Go.Dn.share (List.set s5 (Int.toNat x1) ((List.getD s5 (Int.toNat x1) (((0 : Int), ((0 : Int), ())), (((0 : Int), (([] : List Int), ((0 : Int), ((0 : Int), ((0 : Int), ()))))), ()))).1, ((List.getD s5 (Int.toNat x1) (((0 : Int), ((0 : Int), ())), (((0 : Int), (([] : List Int), ((0 : Int), ((0 : Int), ((0 : Int), ()))))), ()))).2.1.1, (List.getD s5 (Int.toNat x1) (((0 : Int), ((0 : Int), ())), (((0 : Int), (([] : List Int), ((0 : Int), ((0 : Int), ((0 : Int), ()))))), ()))).2.1.2.1, (List.getD s5 (Int.toNat x1) (((0 : Int), ((0 : Int), ())), (((0 : Int), (([] : List Int), ((0 : Int), ((0 : Int), ((0 : Int), ()))))), ()))).2.1.2.2.1, (IntKind.wrap .i64 (y3.1.1 + (1 : Int))), (List.getD s5 (Int.toNat x1) (((0 : Int), ((0 : Int), ())), (((0 : Int), (([] : List Int), ((0 : Int), ((0 : Int), ((0 : Int), ()))))), ()))).2.1.2.2.2.2), (List.getD s5 (Int.toNat x1) (((0 : Int), ((0 : Int), ())), (((0 : Int), (([] : List Int), ((0 : Int), ((0 : Int), ((0 : Int), ()))))), ()))).2.2)) fun s6 =>
                  bif (Go.Dn.inB x1 (((List.length s6) : Nat) : Int)) then
                  (Go.Dn.share (List.set s6 (Int.toNat x1) ((List.getD s6 (Int.toNat x1) (((0 : Int), ((0 : Int), ())), (((0 : Int), (([] : List Int), ((0 : Int), ((0 : Int), ((0 : Int), ()))))), ()))).1, ((List.getD s6 (Int.toNat x1) (((0 : Int), ((0 : Int), ())), (((0 : Int), (([] : List Int), ((0 : Int), ((0 : Int), ((0 : Int), ()))))), ()))).2.1.1, (List.getD s6 (Int.toNat x1) (((0 : Int), ((0 : Int), ())), (((0 : Int), (([] : List Int), ((0 : Int), ((0 : Int), ((0 : Int), ()))))), ()))).2.1.2.1, (List.getD s6 (Int.toNat x1) (((0 : Int), ((0 : Int), ())), (((0 : Int), (([] : List Int), ((0 : Int), ((0 : Int), ((0 : Int), ()))))), ()))).2.1.2.2.1, (List.getD s6 (Int.toNat x1) (((0 : Int), ((0 : Int), ())), (((0 : Int), (([] : List Int), ((0 : Int), ((0 : Int), ((0 : Int), ()))))), ()))).2.1.2.2.2.1, (IntKind.wrap .i64 ((IntKind.wrap .i64 (y3.1.1 + (1 : Int))) + (1 : Int))), (List.getD s6 (Int.toNat x1) (((0 : Int), ((0 : Int), ())), (((0 : Int), (([] : List Int), ((0 : Int), ((0 : Int), ((0 : Int), ()))))), ()))).2.1.2.2.2.2.2), (List.getD s6 (Int.toNat x1) (((0 : Int), ((0 : Int), ())), (((0 : Int), (([] : List Int), ((0 : Int), ((0 : Int), ((0 : Int), ()))))), ()))).2.2)) fun s7 =>
                    laws_markToldS.l2 k c0 n (IntKind.wrap .i64 ((IntKind.wrap .i64 ((IntKind.wrap .i64 (y3.1.1 + (1 : Int))) + (1 : Int))) + (1 : Int))) (IntKind.wrap .i64 (x1 + (1 : Int))) s7)
                  else none)
                else none)
              else none)
            else none)
          else none)
        else none)
      else none)
    else c0 (x0, x2, ())
def laws_markToldS.F (k : Nat) (x : ((List ((Int × (Int × Unit)) × ((Int × ((List Int) × (Int × (Int × (Int × Unit))))) × Unit))) × (Int × Unit))) : Option ((Int × Unit) × ((List ((Int × (Int × Unit)) × ((Int × ((List Int) × (Int × (Int × (Int × Unit))))) × Unit))) × Unit)) :=
  laws_markToldS.l2 k (fun e8 =>
    some ((e8.1, ()), e8.2)) k x.2.1 (0 : Int) x.1
def laws_markToldS.hd : Hints := ⟨[(2, ⟨[0, 1, 5], []⟩)], [(0, [1]), (1, [0, 1, 5])], [4], [0, 1, 5], []⟩
def laws_markToldS.lps (k : Nat) : List (Nat × Lp laws_markToldS.sg.Out) := [(2, ⟨[.i, .i, .l kTold], fun x => (fun x0 x1 x2 => ⟨[(0, .v false [.arr 0]), (1, .v false [.int .i64 x0]), (5, .v false [.int .i64 x1])], [(0, .arr kTold true false x2)], [.arr 0]⟩) x.1 x.2.1 x.2.2.1, fun C n x => laws_markToldS.l2 k (fun y => C (.exit 0) ((fun y0 y1 => ⟨[(1, .v false [.int .i64 y0])], [(0, .arr kTold true false y1)], [.arr 0]⟩) y.1 y.2.1)) n x.1 x.2.1 x.2.2.1⟩)]
theorem laws_markToldS.loops (k : Nat) : LoopsOk laws_markToldS.E k laws_markToldS.hd (laws_markToldS.lps k) (loopsOf (Go.Proofs.Try.f49.body.getD .skip)) := ⟨⟨fun _ _ => rfl, fun _ _ _ => by kernel_rfl, fun _ => ⟨rfl, rfl⟩⟩, trivial⟩
theorem laws_markToldS.den (k : Nat) (x : Sig.In laws_markToldS.sg.ps) : denFn laws_markToldS.E k Go.Proofs.Try.f49 laws_markToldS.sg laws_markToldS.hd (runL k laws_markToldS.hd (laws_markToldS.lps k)) x = laws_markToldS.F k x := by kernel_rfl
theorem laws_markToldS.ok (k : Nat) : Contract Try.prog 49 laws_markToldS.sg (laws_markToldS.F k) := ok_of (E := laws_markToldS.E) (tysOk _ _) (eqsOk _) ⟨laws_markInt64S.ok k, trivial⟩ Try.func49 rfl (by kernel_rfl) (laws_markToldS.loops k) (laws_markToldS.den k)
def laws_markToldResult.sg : Sig := ⟨[.m kToldResult, .b (.int .i64)], [((.int .i64), .rd)]⟩
def laws_markToldResult.E : Env := ⟨tys, bys, [(49, ⟨laws_markToldS.sg, laws_markToldS.F⟩)], eqs⟩
def laws_markToldResult.F (k : Nat) (x : ((Int × ((List ((Int × (Int × Unit)) × ((Int × ((List Int) × (Int × (Int × (Int × Unit))))) × Unit))) × Unit)) × (Int × Unit))) : Option ((Int × Unit) × ((Int × ((List ((Int × (Int × Unit)) × ((Int × ((List Int) × (Int × (Int × (Int × Unit))))) × Unit))) × Unit)) × Unit)) :=
  (laws_markToldS.F k (x.1.2.1, x.2)).bind fun y0 =>
  some (y0.1, (x.1.1, y0.2), ())
def laws_markToldResult.hd : Hints := ⟨[], [], [4], [0, 1, 2], []⟩
def laws_markToldResult.lps (k : Nat) : List (Nat × Lp laws_markToldResult.sg.Out) := []
theorem laws_markToldResult.loops (k : Nat) : LoopsOk laws_markToldResult.E k laws_markToldResult.hd (laws_markToldResult.lps k) (loopsOf (Go.Proofs.Try.f51.body.getD .skip)) := trivial
theorem laws_markToldResult.den (k : Nat) (x : Sig.In laws_markToldResult.sg.ps) : denFn laws_markToldResult.E k Go.Proofs.Try.f51 laws_markToldResult.sg laws_markToldResult.hd (runL k laws_markToldResult.hd (laws_markToldResult.lps k)) x = laws_markToldResult.F k x := by kernel_rfl
theorem laws_markToldResult.ok (k : Nat) : Contract Try.prog 51 laws_markToldResult.sg (laws_markToldResult.F k) := ok_of (E := laws_markToldResult.E) (tysOk _ _) (eqsOk _) ⟨laws_markToldS.ok k, trivial⟩ Try.func51 rfl (by kernel_rfl) (laws_markToldResult.loops k) (laws_markToldResult.den k)
def laws_heldInt64S.sg : Sig := ⟨[.b (.sl (.int .i64)), .b (.int .i64)], [((.int .i64), .rd)]⟩
def laws_heldInt64S.E : Env := ⟨tys, bys, [], eqs⟩
def laws_heldInt64S.l2 {ρ : Type} (k : Nat) (c0 : (Int × Unit) → Option ρ) (c1 : (Int × Unit) → Option ρ) : Nat → List Int → Int → Int → Option ρ
  | 0 => fun _ _ _ => none
  | n + 1 => fun x0 x1 x2 => 
    bif (decide ((x2 < (((List.length x0) : Nat) : Int)))) then
    (bif (Go.Dn.inB x2 (((List.length x0) : Nat) : Int)) then
      (Go.Dn.share (List.getD x0 (Int.toNat x2) (0 : Int)) fun s0 =>
        bif (s0 != x1) then
        (c0 ((-(1 : Int)), ()))
        else laws_heldInt64S.l2 k c0 c1 n x0 (IntKind.wrap .i64 (x1 + (1 : Int))) (IntKind.wrap .i64 (x2 + (1 : Int))))
      else none)
    else c1 (x1, ())
def laws_heldInt64S.F (k : Nat) (x : ((List Int) × (Int × Unit))) : Option ((Int × Unit) × Unit) :=
  laws_heldInt64S.l2 k (fun e1 =>
    some (e1, ())) (fun e2 =>
    some (e2, ())) k x.1 x.2.1 (0 : Int)
def laws_heldInt64S.hd : Hints := ⟨[(2, ⟨[0, 1, 5], []⟩)], [(0, [1]), (1, [0, 1, 5])], [4], [0, 1, 5], []⟩
def laws_heldInt64S.lps (k : Nat) : List (Nat × Lp laws_heldInt64S.sg.Out) := [(2, ⟨[.l (.int .i64), .i, .i], fun x => (fun x0 x1 x2 => ⟨[(0, .v false [.fz (.int .i64) x0]), (1, .v false [.int .i64 x1]), (5, .v false [.int .i64 x2])], [], []⟩) x.1 x.2.1 x.2.2.1, fun C n x => laws_heldInt64S.l2 k (fun y => C .ret ((fun y0 => ⟨[(4, .v false [.int .i64 y0])], [], []⟩) y.1)) (fun y => C (.exit 0) ((fun y0 => ⟨[(1, .v false [.int .i64 y0])], [], []⟩) y.1)) n x.1 x.2.1 x.2.2.1⟩)]
theorem laws_heldInt64S.loops (k : Nat) : LoopsOk laws_heldInt64S.E k laws_heldInt64S.hd (laws_heldInt64S.lps k) (loopsOf (Go.Proofs.Try.f252.body.getD .skip)) := ⟨⟨fun _ _ => rfl, fun _ _ _ => by kernel_rfl, fun _ => ⟨rfl, rfl⟩⟩, trivial⟩
theorem laws_heldInt64S.den (k : Nat) (x : Sig.In laws_heldInt64S.sg.ps) : denFn laws_heldInt64S.E k Go.Proofs.Try.f252 laws_heldInt64S.sg laws_heldInt64S.hd (runL k laws_heldInt64S.hd (laws_heldInt64S.lps k)) x = laws_heldInt64S.F k x := by kernel_rfl
theorem laws_heldInt64S.ok (k : Nat) : Contract Try.prog 252 laws_heldInt64S.sg (laws_heldInt64S.F k) := ok_of (E := laws_heldInt64S.E) (tysOk _ _) (eqsOk _) trivial Try.func252 rfl (by kernel_rfl) (laws_heldInt64S.loops k) (laws_heldInt64S.den k)
def laws_heldToldS.sg : Sig := ⟨[.b (.sl kTold), .b (.int .i64)], [((.int .i64), .rd)]⟩
def laws_heldToldS.E : Env := ⟨tys, bys, [(252, ⟨laws_heldInt64S.sg, laws_heldInt64S.F⟩)], eqs⟩
def laws_heldToldS.l2 {ρ : Type} (k : Nat) (c0 : (Int × Unit) → Option ρ) (c1 : (Int × Unit) → Option ρ) : Nat → List ((Int × (Int × Unit)) × ((Int × ((List Int) × (Int × (Int × (Int × Unit))))) × Unit)) → Int → Int → Option ρ
  | 0 => fun _ _ _ => none
  | n + 1 => fun x0 x1 x2 => 
    bif (decide ((x2 < (((List.length x0) : Nat) : Int)))) then
    (bif (Go.Dn.inB x2 (((List.length x0) : Nat) : Int)) then
      (Go.Dn.share (List.getD x0 (Int.toNat x2) (((0 : Int), ((0 : Int), ())), (((0 : Int), (([] : List Int), ((0 : Int), ((0 : Int), ((0 : Int), ()))))), ()))) fun s0 =>
        bif (s0.1.1 != x1) then
        (c0 ((-(1 : Int)), ()))
        else bif (Go.Dn.inB x2 (((List.length x0) : Nat) : Int)) then
          (Go.Dn.share (List.getD x0 (Int.toNat x2) (((0 : Int), ((0 : Int), ())), (((0 : Int), (([] : List Int), ((0 : Int), ((0 : Int), ((0 : Int), ()))))), ()))) fun s1 =>
            bif (s1.1.2.1 != (IntKind.wrap .i64 (x1 + (1 : Int)))) then
            (c0 ((-(1 : Int)), ()))
            else bif (Go.Dn.inB x2 (((List.length x0) : Nat) : Int)) then
              (Go.Dn.share (List.getD x0 (Int.toNat x2) (((0 : Int), ((0 : Int), ())), (((0 : Int), (([] : List Int), ((0 : Int), ((0 : Int), ((0 : Int), ()))))), ()))) fun s2 =>
                bif (s2.2.1.1 != (IntKind.wrap .i64 ((IntKind.wrap .i64 (x1 + (1 : Int))) + (1 : Int)))) then
                (c0 ((-(1 : Int)), ()))
                else bif (Go.Dn.inB x2 (((List.length x0) : Nat) : Int)) then
                  (Go.Dn.share (List.getD x0 (Int.toNat x2) (((0 : Int), ((0 : Int), ())), (((0 : Int), (([] : List Int), ((0 : Int), ((0 : Int), ((0 : Int), ()))))), ()))) fun s3 =>
                    (laws_heldInt64S.F k (s3.2.1.2.1, (IntKind.wrap .i64 ((IntKind.wrap .i64 ((IntKind.wrap .i64 (x1 + (1 : Int))) + (1 : Int))) + (1 : Int))), ())).bind fun y4 =>
                    bif (decide ((y4.1.1 < (0 : Int)))) then
                    (c0 ((-(1 : Int)), ()))
                    else bif (Go.Dn.inB x2 (((List.length x0) : Nat) : Int)) then
                      (Go.Dn.share (List.getD x0 (Int.toNat x2) (((0 : Int), ((0 : Int), ())), (((0 : Int), (([] : List Int), ((0 : Int), ((0 : Int), ((0 : Int), ()))))), ()))) fun s5 =>
                        bif (s5.2.1.2.2.1 != y4.1.1) then
                        (c0 ((-(1 : Int)), ()))
                        else bif (Go.Dn.inB x2 (((List.length x0) : Nat) : Int)) then
                          (Go.Dn.share (List.getD x0 (Int.toNat x2) (((0 : Int), ((0 : Int), ())), (((0 : Int), (([] : List Int), ((0 : Int), ((0 : Int), ((0 : Int), ()))))), ()))) fun s6 =>
                            bif (s6.2.1.2.2.2.1 != (IntKind.wrap .i64 (y4.1.1 + (1 : Int)))) then
                            (c0 ((-(1 : Int)), ()))
                            else bif (Go.Dn.inB x2 (((List.length x0) : Nat) : Int)) then
                              (Go.Dn.share (List.getD x0 (Int.toNat x2) (((0 : Int), ((0 : Int), ())), (((0 : Int), (([] : List Int), ((0 : Int), ((0 : Int), ((0 : Int), ()))))), ()))) fun s7 =>
                                bif (s7.2.1.2.2.2.2.1 != (IntKind.wrap .i64 ((IntKind.wrap .i64 (y4.1.1 + (1 : Int))) + (1 : Int)))) then
                                (c0 ((-(1 : Int)), ()))
                                else laws_heldToldS.l2 k c0 c1 n x0 (IntKind.wrap .i64 ((IntKind.wrap .i64 ((IntKind.wrap .i64 (y4.1.1 + (1 : Int))) + (1 : Int))) + (1 : Int))) (IntKind.wrap .i64 (x2 + (1 : Int))))
                              else none)
                          else none)
                      else none)
                  else none)
              else none)
          else none)
      else none)
    else c1 (x1, ())
def laws_heldToldS.F (k : Nat) (x : ((List ((Int × (Int × Unit)) × ((Int × ((List Int) × (Int × (Int × (Int × Unit))))) × Unit))) × (Int × Unit))) : Option ((Int × Unit) × Unit) :=
  laws_heldToldS.l2 k (fun e8 =>
    some (e8, ())) (fun e9 =>
    some (e9, ())) k x.1 x.2.1 (0 : Int)
def laws_heldToldS.hd : Hints := ⟨[(2, ⟨[0, 1, 5], []⟩)], [(0, [1]), (1, [0, 1, 5])], [4], [0, 1, 5], []⟩
def laws_heldToldS.lps (k : Nat) : List (Nat × Lp laws_heldToldS.sg.Out) := [(2, ⟨[.l kTold, .i, .i], fun x => (fun x0 x1 x2 => ⟨[(0, .v false [.fz kTold x0]), (1, .v false [.int .i64 x1]), (5, .v false [.int .i64 x2])], [], []⟩) x.1 x.2.1 x.2.2.1, fun C n x => laws_heldToldS.l2 k (fun y => C .ret ((fun y0 => ⟨[(4, .v false [.int .i64 y0])], [], []⟩) y.1)) (fun y => C (.exit 0) ((fun y0 => ⟨[(1, .v false [.int .i64 y0])], [], []⟩) y.1)) n x.1 x.2.1 x.2.2.1⟩)]
theorem laws_heldToldS.loops (k : Nat) : LoopsOk laws_heldToldS.E k laws_heldToldS.hd (laws_heldToldS.lps k) (loopsOf (Go.Proofs.Try.f149.body.getD .skip)) := ⟨⟨fun _ _ => rfl, fun _ _ _ => by kernel_rfl, fun _ => ⟨rfl, rfl⟩⟩, trivial⟩
theorem laws_heldToldS.den (k : Nat) (x : Sig.In laws_heldToldS.sg.ps) : denFn laws_heldToldS.E k Go.Proofs.Try.f149 laws_heldToldS.sg laws_heldToldS.hd (runL k laws_heldToldS.hd (laws_heldToldS.lps k)) x = laws_heldToldS.F k x := by kernel_rfl
theorem laws_heldToldS.ok (k : Nat) : Contract Try.prog 149 laws_heldToldS.sg (laws_heldToldS.F k) := ok_of (E := laws_heldToldS.E) (tysOk _ _) (eqsOk _) ⟨laws_heldInt64S.ok k, trivial⟩ Try.func149 rfl (by kernel_rfl) (laws_heldToldS.loops k) (laws_heldToldS.den k)
def laws_heldToldResult.sg : Sig := ⟨[.b kToldResult, .b (.int .i64)], [((.int .i64), .rd)]⟩
def laws_heldToldResult.E : Env := ⟨tys, bys, [(149, ⟨laws_heldToldS.sg, laws_heldToldS.F⟩)], eqs⟩
def laws_heldToldResult.F (k : Nat) (x : ((Int × ((List ((Int × (Int × Unit)) × ((Int × ((List Int) × (Int × (Int × (Int × Unit))))) × Unit))) × Unit)) × (Int × Unit))) : Option ((Int × Unit) × Unit) :=
  (laws_heldToldS.F k (x.1.2.1, x.2)).bind fun y0 =>
  bif (decide ((y0.1.1 < (0 : Int)))) then
  (some (((-(1 : Int)), ()), ()))
  else some y0
def laws_heldToldResult.hd : Hints := ⟨[], [], [4], [0, 1, 2], []⟩
def laws_heldToldResult.lps (k : Nat) : List (Nat × Lp laws_heldToldResult.sg.Out) := []
theorem laws_heldToldResult.loops (k : Nat) : LoopsOk laws_heldToldResult.E k laws_heldToldResult.hd (laws_heldToldResult.lps k) (loopsOf (Go.Proofs.Try.f52.body.getD .skip)) := trivial
theorem laws_heldToldResult.den (k : Nat) (x : Sig.In laws_heldToldResult.sg.ps) : denFn laws_heldToldResult.E k Go.Proofs.Try.f52 laws_heldToldResult.sg laws_heldToldResult.hd (runL k laws_heldToldResult.hd (laws_heldToldResult.lps k)) x = laws_heldToldResult.F k x := by kernel_rfl
theorem laws_heldToldResult.ok (k : Nat) : Contract Try.prog 52 laws_heldToldResult.sg (laws_heldToldResult.F k) := ok_of (E := laws_heldToldResult.E) (tysOk _ _) (eqsOk _) ⟨laws_heldToldS.ok k, trivial⟩ Try.func52 rfl (by kernel_rfl) (laws_heldToldResult.loops k) (laws_heldToldResult.den k)
def laws_szRuleS.sg : Sig := ⟨[.b (.sl kRule), .b (.int .i64)], [((.int .i64), .rd)]⟩
def laws_szRuleS.E : Env := ⟨tys, bys, [], eqs⟩
def laws_szRuleS.F (k : Nat) (x : ((List ((Int × (Int × Unit)) × (Int × (Int × (Int × (Bool × (Int × (Int × Unit)))))))) × (Int × Unit))) : Option ((Int × Unit) × Unit) :=
  bif (decide (((IntKind.wrap .i64 (x.2.1 - (((List.length x.1) : Nat) : Int))) < (0 : Int)))) then
  (some (((-(1 : Int)), ()), ()))
  else some (((IntKind.wrap .i64 (x.2.1 - (((List.length x.1) : Nat) : Int))), ()), ())
def laws_szRuleS.hd : Hints := ⟨[], [], [4], [0, 1], []⟩
def laws_szRuleS.lps (k : Nat) : List (Nat × Lp laws_szRuleS.sg.Out) := []
theorem laws_szRuleS.loops (k : Nat) : LoopsOk laws_szRuleS.E k laws_szRuleS.hd (laws_szRuleS.lps k) (loopsOf (Go.Proofs.Try.f63.body.getD .skip)) := trivial
theorem laws_szRuleS.den (k : Nat) (x : Sig.In laws_szRuleS.sg.ps) : denFn laws_szRuleS.E k Go.Proofs.Try.f63 laws_szRuleS.sg laws_szRuleS.hd (runL k laws_szRuleS.hd (laws_szRuleS.lps k)) x = laws_szRuleS.F k x := by kernel_rfl
theorem laws_szRuleS.ok (k : Nat) : Contract Try.prog 63 laws_szRuleS.sg (laws_szRuleS.F k) := ok_of (E := laws_szRuleS.E) (tysOk _ _) (eqsOk _) trivial Try.func63 rfl (by kernel_rfl) (laws_szRuleS.loops k) (laws_szRuleS.den k)
def laws_toRule.sg : Sig := ⟨[.b kRule], [(kRule, .rd)]⟩
def laws_toRule.E : Env := ⟨tys, bys, [(246, ⟨laws_toPrefix.sg, laws_toPrefix.F⟩)], eqs⟩
def laws_toRule.F (k : Nat) (x : (((Int × (Int × Unit)) × (Int × (Int × (Int × (Bool × (Int × (Int × Unit))))))) × Unit)) : Option ((((Int × (Int × Unit)) × (Int × (Int × (Int × (Bool × (Int × (Int × Unit))))))) × Unit) × Unit) :=
  (laws_toPrefix.F k (x.1.1, ())).bind fun y0 =>
  some (((y0.1.1, x.1.2), ()), ())
def laws_toRule.hd : Hints := ⟨[], [], [2], [0, 1, 2, 3], []⟩
def laws_toRule.lps (k : Nat) : List (Nat × Lp laws_toRule.sg.Out) := []
theorem laws_toRule.loops (k : Nat) : LoopsOk laws_toRule.E k laws_toRule.hd (laws_toRule.lps k) (loopsOf (Go.Proofs.Try.f164.body.getD .skip)) := trivial
theorem laws_toRule.den (k : Nat) (x : Sig.In laws_toRule.sg.ps) : denFn laws_toRule.E k Go.Proofs.Try.f164 laws_toRule.sg laws_toRule.hd (runL k laws_toRule.hd (laws_toRule.lps k)) x = laws_toRule.F k x := by kernel_rfl
theorem laws_toRule.ok (k : Nat) : Contract Try.prog 164 laws_toRule.sg (laws_toRule.F k) := ok_of (E := laws_toRule.E) (tysOk _ _) (eqsOk _) ⟨laws_toPrefix.ok k, trivial⟩ Try.func164 rfl (by kernel_rfl) (laws_toRule.loops k) (laws_toRule.den k)
def laws_toRuleS.sg : Sig := ⟨[.b (.sl kRule)], [((.sl kRule), .dp)]⟩
def laws_toRuleS.E : Env := ⟨tys, bys, [(164, ⟨laws_toRule.sg, laws_toRule.F⟩)], eqs⟩
def laws_toRuleS.l3 {ρ : Type} (k : Nat) (c0 : (List ((Int × (Int × Unit)) × (Int × (Int × (Int × (Bool × (Int × (Int × Unit))))))) × Unit) → Option ρ) : Nat → List ((Int × (Int × Unit)) × (Int × (Int × (Int × (Bool × (Int × (Int × Unit))))))) → Int → List ((Int × (Int × Unit)) × (Int × (Int × (Int × (Bool × (Int × (Int × Unit))))))) → Option ρ
  | 0 => fun _ _ _ => none
  | n + 1 => fun x0 x1 x2 => 
    bif (decide ((x1 < (((List.length x0) : Nat) : Int)))) then
    (bif (Go.Dn.inB x1 (((List.length x0) : Nat) : Int)) then
      (Go.Dn.share (List.getD x0 (Int.toNat x1) (((0 : Int), ((0 : Int), ())), ((0 : Int), ((0 : Int), ((0 : Int), (false, ((0 : Int), ((0 : Int), ())))))))) fun s0 =>
        (laws_toRule.F k (s0, ())).bind fun y1 =>
        bif (Go.Dn.inB x1 (((List.length x2) : Nat) : Int)) then
        (Go.Dn.share (List.set x2 (Int.toNat x1) (y1.1.1.1, y1.1.1.2.1, y1.1.1.2.2.1, y1.1.1.2.2.2.1, y1.1.1.2.2.2.2.1, y1.1.1.2.2.2.2.2.1, y1.1.1.2.2.2.2.2.2.1, (List.getD x2 (Int.toNat x1) (((0 : Int), ((0 : Int), ())), ((0 : Int), ((0 : Int), ((0 : Int), (false, ((0 : Int), ((0 : Int), ())))))))).2.2.2.2.2.2.2)) fun s2 =>
          laws_toRuleS.l3 k c0 n x0 (IntKind.wrap .i64 (x1 + (1 : Int))) s2)
        else none)
      else none)
    else c0 (x2, ())
def laws_toRuleS.F (k : Nat) (x : ((List ((Int × (Int × Unit)) × (Int × (Int × (Int × (Bool × (Int × (Int × Unit)))))))) × Unit)) : Option (((List ((Int × (Int × Unit)) × (Int × (Int × (Int × (Bool × (Int × (Int × Unit)))))))) × Unit) × Unit) :=
  bif (decide (((((List.length x.1) : Nat) : Int) ≤ (((List.length x.1) : Nat) : Int)))) then
  (bif (Go.Dn.roomy (Int.toNat (((List.length x.1) : Nat) : Int)) 64) then
    (laws_toRuleS.l3 k (fun e3 =>
        some (e3, ())) k x.1 (0 : Int) (List.replicate (Int.toNat (((List.length x.1) : Nat) : Int)) (((0 : Int), ((0 : Int), ())), ((0 : Int), ((0 : Int), ((0 : Int), (false, ((0 : Int), ((0 : Int), ())))))))))
    else none)
  else none
def laws_toRuleS.hd : Hints := ⟨[(3, ⟨[0, 3, 4], []⟩)], [(0, [3]), (1, [0, 3, 4])], [2], [0, 3, 4], []⟩
def laws_toRuleS.lps (k : Nat) : List (Nat × Lp laws_toRuleS.sg.Out) := [(3, ⟨[.l kRule, .i, .l kRule], fun x => (fun x0 x1 x2 => ⟨[(0, .v false [.fz kRule x0]), (3, .v false [.arr 0]), (4, .v false [.int .i64 x1])], [(0, .arr kRule true false x2)], []⟩) x.1 x.2.1 x.2.2.1, fun C n x => laws_toRuleS.l3 k (fun y => C (.exit 0) ((fun y0 => ⟨[(3, .v false [.arr 0])], [(0, .arr kRule true false y0)], []⟩) y.1)) n x.1 x.2.1 x.2.2.1⟩)]
theorem laws_toRuleS.loops (k : Nat) : LoopsOk laws_toRuleS.E k laws_toRuleS.hd (laws_toRuleS.lps k) (loopsOf (Go.Proofs.Try.f65.body.getD .skip)) := ⟨⟨fun _ _ => rfl, fun _ _ _ => by kernel_rfl, fun _ => ⟨rfl, rfl⟩⟩, trivial⟩
theorem laws_toRuleS.den (k : Nat) (x : Sig.In laws_toRuleS.sg.ps) : denFn laws_toRuleS.E k Go.Proofs.Try.f65 laws_toRuleS.sg laws_toRuleS.hd (runL k laws_toRuleS.hd (laws_toRuleS.lps k)) x = laws_toRuleS.F k x := by kernel_rfl
theorem laws_toRuleS.ok (k : Nat) : Contract Try.prog 65 laws_toRuleS.sg (laws_toRuleS.F k) := ok_of (E := laws_toRuleS.E) (tysOk _ _) (eqsOk _) ⟨laws_toRule.ok k, trivial⟩ Try.func65 rfl (by kernel_rfl) (laws_toRuleS.loops k) (laws_toRuleS.den k)
def laws_eqRule.sg : Sig := ⟨[.b kRule, .b kRule], [(.bool, .rd)]⟩
def laws_eqRule.E : Env := ⟨tys, bys, [(249, ⟨laws_eqPrefix.sg, laws_eqPrefix.F⟩)], eqs⟩
def laws_eqRule.F (k : Nat) (x : (((Int × (Int × Unit)) × (Int × (Int × (Int × (Bool × (Int × (Int × Unit))))))) × (((Int × (Int × Unit)) × (Int × (Int × (Int × (Bool × (Int × (Int × Unit))))))) × Unit))) : Option ((Bool × Unit) × Unit) :=
  (laws_eqPrefix.F k (x.1.1, x.2.1.1, ())).bind fun y0 =>
  bif (!y0.1.1) then
  (some ((false, ()), ()))
  else bif (x.1.2.1 != x.2.1.2.1) then
    (some ((false, ()), ()))
    else bif (x.1.2.2.1 != x.2.1.2.2.1) then
      (some ((false, ()), ()))
      else bif (x.1.2.2.2.1 != x.2.1.2.2.2.1) then
        (some ((false, ()), ()))
        else bif (!(x.1.2.2.2.2.1 == x.2.1.2.2.2.2.1)) then
          (some ((false, ()), ()))
          else bif (x.1.2.2.2.2.2.1 != x.2.1.2.2.2.2.2.1) then
            (some ((false, ()), ()))
            else bif (x.1.2.2.2.2.2.2.1 != x.2.1.2.2.2.2.2.2.1) then
              (some ((false, ()), ()))
              else some ((true, ()), ())
def laws_eqRule.hd : Hints := ⟨[], [], [4], [0, 1, 2, 3], []⟩
def laws_eqRule.lps (k : Nat) : List (Nat × Lp laws_eqRule.sg.Out) := []
theorem laws_eqRule.loops (k : Nat) : LoopsOk laws_eqRule.E k laws_eqRule.hd (laws_eqRule.lps k) (loopsOf (Go.Proofs.Try.f166.body.getD .skip)) := trivial
theorem laws_eqRule.den (k : Nat) (x : Sig.In laws_eqRule.sg.ps) : denFn laws_eqRule.E k Go.Proofs.Try.f166 laws_eqRule.sg laws_eqRule.hd (runL k laws_eqRule.hd (laws_eqRule.lps k)) x = laws_eqRule.F k x := by kernel_rfl
theorem laws_eqRule.ok (k : Nat) : Contract Try.prog 166 laws_eqRule.sg (laws_eqRule.F k) := ok_of (E := laws_eqRule.E) (tysOk _ _) (eqsOk _) ⟨laws_eqPrefix.ok k, trivial⟩ Try.func166 rfl (by kernel_rfl) (laws_eqRule.loops k) (laws_eqRule.den k)
def laws_eqRuleS.sg : Sig := ⟨[.b (.sl kRule), .b (.sl kRule)], [(.bool, .rd)]⟩
def laws_eqRuleS.E : Env := ⟨tys, bys, [(166, ⟨laws_eqRule.sg, laws_eqRule.F⟩)], eqs⟩
def laws_eqRuleS.l4 {ρ : Type} (k : Nat) (c0 : (Bool × Unit) → Option ρ) (c1 : Unit → Option ρ) : Nat → List ((Int × (Int × Unit)) × (Int × (Int × (Int × (Bool × (Int × (Int × Unit))))))) → List ((Int × (Int × Unit)) × (Int × (Int × (Int × (Bool × (Int × (Int × Unit))))))) → Int → Option ρ
  | 0 => fun _ _ _ => none
  | n + 1 => fun x0 x1 x2 => 
    bif (decide ((x2 < (((List.length x0) : Nat) : Int)))) then
    (bif (Go.Dn.inB x2 (((List.length x0) : Nat) : Int)) then
      (Go.Dn.share (List.getD x0 (Int.toNat x2) (((0 : Int), ((0 : Int), ())), ((0 : Int), ((0 : Int), ((0 : Int), (false, ((0 : Int), ((0 : Int), ())))))))) fun s0 =>
        bif (Go.Dn.inB x2 (((List.length x1) : Nat) : Int)) then
        (Go.Dn.share (List.getD x1 (Int.toNat x2) (((0 : Int), ((0 : Int), ())), ((0 : Int), ((0 : Int), ((0 : Int), (false, ((0 : Int), ((0 : Int), ())))))))) fun s1 =>
          (laws_eqRule.F k (s0, s1, ())).bind fun y2 =>
          bif (!y2.1.1) then
          (c0 (false, ()))
          else laws_eqRuleS.l4 k c0 c1 n x0 x1 (IntKind.wrap .i64 (x2 + (1 : Int))))
        else none)
      else none)
    else c1 (())
def laws_eqRuleS.F (k : Nat) (x : ((List ((Int × (Int × Unit)) × (Int × (Int × (Int × (Bool × (Int × (Int × Unit)))))))) × ((List ((Int × (Int × Unit)) × (Int × (Int × (Int × (Bool × (Int × (Int × Unit)))))))) × Unit))) : Option ((Bool × Unit) × Unit) :=
  bif ((((List.length x.1) : Nat) : Int) != (((List.length x.2.1) : Nat) : Int)) then
  (some ((false, ()), ()))
  else laws_eqRuleS.l4 k (fun e3 =>
      some (e3, ())) (fun e4 =>
      some ((true, ()), ())) k x.1 x.2.1 (0 : Int)
def laws_eqRuleS.hd : Hints := ⟨[(4, ⟨[0, 1, 5], []⟩)], [(0, []), (1, [0, 1, 5])], [4], [0, 1, 5], [(6, [0, 0, 3, 7, 0, 0, 48, 112, 255, 511])]⟩
def laws_eqRuleS.lps (k : Nat) : List (Nat × Lp laws_eqRuleS.sg.Out) := [(4, ⟨[.l kRule, .l kRule, .i], fun x => (fun x0 x1 x2 => ⟨[(0, .v false [.fz kRule x0]), (1, .v false [.fz kRule x1]), (5, .v false [.int .i64 x2])], [], []⟩) x.1 x.2.1 x.2.2.1, fun C n x => laws_eqRuleS.l4 k (fun y => C .ret ((fun y0 => ⟨[(4, .v false [.bool y0])], [], []⟩) y.1)) (fun _ => C (.exit 0) ⟨[], [], []⟩) n x.1 x.2.1 x.2.2.1⟩)]
theorem laws_eqRuleS.loops (k : Nat) : LoopsOk laws_eqRuleS.E k laws_eqRuleS.hd (laws_eqRuleS.lps k) (loopsOf (Go.Proofs.Try.f67.body.getD .skip)) := ⟨⟨fun _ _ => rfl, fun _ _ _ => by kernel_rfl, fun _ => ⟨rfl, rfl⟩⟩, trivial⟩
theorem laws_eqRuleS.den (k : Nat) (x : Sig.In laws_eqRuleS.sg.ps) : denFn laws_eqRuleS.E k Go.Proofs.Try.f67 laws_eqRuleS.sg laws_eqRuleS.hd (runL k laws_eqRuleS.hd (laws_eqRuleS.lps k)) x = laws_eqRuleS.F k x := by kernel_rfl
theorem laws_eqRuleS.ok (k : Nat) : Contract Try.prog 67 laws_eqRuleS.sg (laws_eqRuleS.F k) := ok_of (E := laws_eqRuleS.E) (tysOk _ _) (eqsOk _) ⟨laws_eqRule.ok k, trivial⟩ Try.func67 rfl (by kernel_rfl) (laws_eqRuleS.loops k) (laws_eqRuleS.den k)
def laws_markRuleS.sg : Sig := ⟨[.m (.sl kRule), .b (.int .i64)], [((.int .i64), .rd)]⟩
def laws_markRuleS.E : Env := ⟨tys, bys, [], eqs⟩
def laws_markRuleS.l2 {ρ : Type} (k : Nat) (c0 : (Int × (List ((Int × (Int × Unit)) × (Int × (Int × (Int × (Bool × (Int × (Int × Unit))))))) × Unit)) → Option ρ) : Nat → Int → Int → List ((Int × (Int × Unit)) × (Int × (Int × (Int × (Bool × (Int × (Int × Unit))))))) → Option ρ
  | 0 => fun _ _ _ => none
  | n + 1 => fun x0 x1 x2 => 
    bif (decide ((x1 < (((List.length x2) : Nat) : Int)))) then
    (bif (Go.Dn.inB x1 (((List.length x2) : Nat) : Int)) then
      (Go.Dn.share (List.set x2 (Int.toNat x1) ((x0, (List.getD x2 (Int.toNat x1) (((0 : Int), ((0 : Int), ())), ((0 : Int), ((0 : Int), ((0 : Int), (false, ((0 : Int), ((0 : Int), ())))))))).1.2), (List.getD x2 (Int.toNat x1) (((0 : Int), ((0 : Int), ())), ((0 : Int), ((0 : Int), ((0 : Int), (false, ((0 : Int), ((0 : Int), ())))))))).2)) fun s0 =>
        bif (Go.Dn.inB x1 (((List.length s0) : Nat) : Int)) then
        (Go.Dn.share (List.set s0 (Int.toNat x1) (((List.getD s0 (Int.toNat x1) (((0 : Int), ((0 : Int), ())), ((0 : Int), ((0 : Int), ((0 : Int), (false, ((0 : Int), ((0 : Int), ())))))))).1.1, (IntKind.wrap .i64 (x0 + (1 : Int))), (List.getD s0 (Int.toNat x1) (((0 : Int), ((0 : Int), ())), ((0 : Int), ((0 : Int), ((0 : Int), (false, ((0 : Int), ((0 : Int), ())))))))).1.2.2), (List.getD s0 (Int.toNat x1) (((0 : Int), ((0 : Int), ())), ((0 : Int), ((0 : Int), ((0 : Int), (false, ((0 : Int), ((0 : Int), ())))))))).2)) fun s1 =>
          bif (Go.Dn.inB x1 (((List.length s1) : Nat) : Int)) then
          (Go.Dn.share (List.set s1 (Int.toNat x1) ((List.getD s1 (Int.toNat x1) (((0 : Int), ((0 : Int), ())), ((0 : Int), ((0 : Int), ((0 : Int), (false, ((0 : Int), ((0 : Int), ())))))))).1, (IntKind.wrap .i64 ((IntKind.wrap .i64 (x0 + (1 : Int))) + (1 : Int))), (List.getD s1 (Int.toNat x1) (((0 : Int), ((0 : Int), ())), ((0 : Int), ((0 : Int), ((0 : Int), (false, ((0 : Int), ((0 : Int), ())))))))).2.2)) fun s2 =>
            bif (Go.Dn.inB x1 (((List.length s2) : Nat) : Int)) then
            (Go.Dn.share (List.set s2 (Int.toNat x1) ((List.getD s2 (Int.toNat x1) (((0 : Int), ((0 : Int), ())), ((0 : Int), ((0 : Int), ((0 : Int), (false, ((0 : Int), ((0 : Int), ())))))))).1, (List.getD s2 (Int.toNat x1) (((0 : Int), ((0 : Int), ())), ((0 : Int), ((0 : Int), ((0 : Int), (false, ((0 : Int), ((0 : Int), ())))))))).2.1, (IntKind.wrap .i64 ((IntKind.wrap .i64 ((IntKind.wrap .i64 (x0 + (1 : Int))) + (1 : Int))) + (1 : Int))), (List.getD s2 (Int.toNat x1) (((0 : Int), ((0 : Int), ())), ((0 : Int), ((0 : Int), ((0 : Int), (false, ((0 : Int), ((0 : Int), ())))))))).2.2.2)) fun s3 =>
              bif (Go.Dn.inB x1 (((List.length s3) : Nat) : Int)) then
              (Go.Dn.share (List.set s3 (Int.toNat x1) ((List.getD s3 (Int.toNat x1) (((0 : Int), ((0 : Int), ())), ((0 : Int), ((0 : Int), ((0 : Int), (false, ((0 : Int), ((0 : Int), ())))))))).1, (List.getD s3 (Int.toNat x1) (((0 : Int), ((0 : Int), ())), ((0 : Int), ((0 : Int), ((0 : Int), (false, ((0 : Int), ((0 : Int), ())))))))).2.1, (List.getD s3 (Int.toNat x1) (((0 : Int), ((0 : Int), ())), ((0 : Int), ((0 : Int), ((0 : Int), (false, ((0 : Int), ((0 : Int), ())))))))).2.2.1, (IntKind.wrap .i64 ((IntKind.wrap .i64 ((IntKind.wrap .i64 ((IntKind.wrap .i64 (x0 + (1 : Int))) + (1 : Int))) + (1 : Int))) + (1 : Int))), (List.getD s3 (Int.toNat x1) (((0 : Int), ((0 : Int), ())), ((0 : Int), ((0 : Int), ((0 : Int), (false, ((0 : Int), ((0 : Int), ())))))))).2.2.2.2)) fun s4 =>
                bif (Go.Dn.inB x1 (((List.length s4) : Nat) : Int)) then
                (Go.Dn.share (List.set s4 (Int.toNat x1) ((List.getD s4 (Int.toNat x1) (((0 : Int), ((0 : Int), ())), ((0 : Int), ((0 : Int), ((0 : Int), (false, ((0 : Int), ((0 : Int), ())))))))).1, (List.getD s4 (Int.toNat x1) (((0 : Int), ((0 : Int), ())), ((0 : Int), ((0 : Int), ((0 : Int), (false, ((0 : Int), ((0 : Int), ())))))))).2.1, (List.getD s4 (Int.toNat x1) (((0 : Int), ((0 : Int), ())), ((0 : Int), ((0 : Int), ((0 : Int), (false, ((0 : Int), ((0 : Int), ())))))))).2.2.1, (List.getD s4 (Int.toNat x1) (((0 : Int), ((0 : Int), ())), ((0 : Int), ((0 : Int), ((0 : Int), (false, ((0 : Int), ((0 : Int), ())))))))).2.2.2.1, ((Int.tmod (IntKind.wrap .i64 ((IntKind.wrap .i64 ((IntKind.wrap .i64 ((IntKind.wrap .i64 ((IntKind.wrap .i64 (x0 + (1 : Int))) + (1 : Int))) + (1 : Int))) + (1 : Int))) + (1 : Int))) (3 : Int)) == (0 : Int)), (List.getD s4 (Int.toNat x1) (((0 : Int), ((0 : Int), ())), ((0 : Int), ((0 : Int), ((0 : Int), (false, ((0 : Int), ((0 : Int), ())))))))).2.2.2.2.2)) fun s5 =>
                  bif (Go.Dn.inB x1 (((List.length s5) : Nat) : Int)) then
                  (Go.Dn.share (List.set s5 (Int.toNat x1) ((List.getD s5 (Int.toNat x1) (((0 : Int), ((0 : Int), ())), ((0 : Int), ((0 : Int), ((0 : Int), (false, ((0 : Int), ((0 : Int), ())))))))).1, (List.getD s5 (Int.toNat x1) (((0 : Int), ((0 : Int), ())), ((0 : Int), ((0 : Int), ((0 : Int), (false, ((0 : Int), ((0 : Int), ())))))))).2.1, (List.getD s5 (Int.toNat x1) (((0 : Int), ((0 : Int), ())), ((0 : Int), ((0 : Int), ((0 : Int), (false, ((0 : Int), ((0 : Int), ())))))))).2.2.1, (List.getD s5 (Int.toNat x1) (((0 : Int), ((0 : Int), ())), ((0 : Int), ((0 : Int), ((0 : Int), (false, ((0 : Int), ((0 : Int), ())))))))).2.2.2.1, (List.getD s5 (Int.toNat x1) (((0 : Int), ((0 : Int), ())), ((0 : Int), ((0 : Int), ((0 : Int), (false, ((0 : Int), ((0 : Int), ())))))))).2.2.2.2.1, (IntKind.wrap .i64 ((IntKind.wrap .i64 ((IntKind.wrap .i64 ((IntKind.wrap .i64 ((IntKind.wrap .i64 ((IntKind.wrap .i64 (x0 + (1 : Int))) + (1 : Int))) + (1 : Int))) + (1 : Int))) + (1 : Int))) + (1 : Int))), (List.getD s5 (Int.toNat x1) (((0 : Int), ((0 : Int), ())), ((0 : Int), ((0 : Int), ((0 : Int), (false, ((0 : Int), ((0 : Int), ())))))))).2.2.2.2.2.2)) fun s6 =>
                    bif (Go.Dn.inB x1 (((List.length s6) : Nat) : Int)) then
                    (Go.Dn.share (List.set s6 (Int.toNat x1) ((List.getD s6 (Int.toNat x1) (((0 : Int), ((0 : Int), ())), ((0 : Int), ((0 : Int), ((0 : Int), (false, ((0 : Int), ((0 : Int), ())))))))).1, (List.getD s6 (Int.toNat x1) (((0 : Int), ((0 : Int), ())), ((0 : Int), ((0 : Int), ((0 : Int), (false, ((0 : Int), ((0 : Int), ())))))))).2.1, (List.getD s6 (Int.toNat x1) (((0 : Int), ((0 : Int), ())), ((0 : Int), ((0 : Int), ((0 : Int), (false, ((0 : Int), ((0 : Int), ())))))))).2.2.1, (List.getD s6 (Int.toNat x1) (((0 : Int), ((0 : Int), ())), ((0 : Int), ((0 : Int), ((0 : Int), (false, ((0 : Int), ((0 : Int), ())))))))).2.2.2.1, (List.getD s6 (Int.toNat x1) (((0 : Int), ((0 : Int), ())), ((0 : Int), ((0 : Int), ((0 : Int), (false, ((0 : Int), ((0 : Int), ())))))))).2.2.2.2.1, (List.getD s6 (Int.toNat x1) (((0 : Int), ((0 : Int), ())), ((0 : Int), ((0 : Int), ((0 : Int), (false, ((0 : Int), ((0 : Int), ())))))))).2.2.2.2.2.1, (IntKind.wrap .i64 ((IntKind.wrap .i64 ((IntKind.wrap .i64 ((IntKind.wrap .i64 ((IntKind.wrap .i64 ((IntKind.wrap .i64 ((IntKind.wrap .i64 (x0 + (1 : Int))) + (1 : Int))) + (1 : Int))) + (1 : Int))) + (1 : Int))) + (1 : Int))) + (1 : Int))), (List.getD s6 (Int.toNat x1) (((0 : Int), ((0 : Int), ())), ((0 : Int), ((0 : Int), ((0 : Int), (false, ((0 : Int), ((0 : Int), ())))))))).2.2.2.2.2.2.2)) fun s7 =>
                      laws_markRuleS.l2 k c0 n (IntKind.wrap .i64 ((IntKind.wrap .i64 ((IntKind.wrap .i64 ((IntKind.wrap .i64 ((IntKind.wrap .i64 ((IntKind.wrap .i64 ((IntKind.wrap .i64 ((IntKind.wrap .i64 (x0 + (1 : Int))) + (1 : Int))) + (1 : Int))) + (1 : Int))) + (1 : Int))) + (1 : Int))) + (1 : Int))) + (1 : Int))) (IntKind.wrap .i64 (x1 + (1 : Int))) s7)
                    else none)
                  else none)
                else none)
              else none)
            else none)
          else none)
        else none)
      else none)
    else c0 (x0, x2, ())
def laws_markRuleS.F (k : Nat) (x : ((List ((Int × (Int × Unit)) × (Int × (Int × (Int × (Bool × (Int × (Int × Unit)))))))) × (Int × Unit))) : Option ((Int × Unit) × ((List ((Int × (Int × Unit)) × (Int × (Int × (Int × (Bool × (Int × (Int × Unit)))))))) × Unit)) :=
  laws_markRuleS.l2 k (fun e8 =>
    some ((e8.1, ()), e8.2)) k x.2.1 (0 : Int) x.1
def laws_markRuleS.hd : Hints := ⟨[(2, ⟨[0, 1, 5], []⟩)], [(0, [1]), (1, [0, 1, 5])], [4], [0, 1, 5], []⟩
def laws_markRuleS.lps (k : Nat) : List (Nat × Lp laws_markRuleS.sg.Out) := [(2, ⟨[.i, .i, .l kRule], fun x => (fun x0 x1 x2 => ⟨[(0, .v false [.arr 0]), (1, .v false [.int .i64 x0]), (5, .v false [.int .i64 x1])], [(0, .arr kRule true false x2)], [.arr 0]⟩) x.1 x.2.1 x.2.2.1, fun C n x => laws_markRuleS.l2 k (fun y => C (.exit 0) ((fun y0 y1 => ⟨[(1, .v false [.int .i64 y0])], [(0, .arr kRule true false y1)], [.arr 0]⟩) y.1 y.2.1)) n x.1 x.2.1 x.2.2.1⟩)]
theorem laws_markRuleS.loops (k : Nat) : LoopsOk laws_markRuleS.E k laws_markRuleS.hd (laws_markRuleS.lps k) (loopsOf (Go.Proofs.Try.f69.body.getD .skip)) := ⟨⟨fun _ _ => rfl, fun _ _ _ => by kernel_rfl, fun _ => ⟨rfl, rfl⟩⟩, trivial⟩
theorem laws_markRuleS.den (k : Nat) (x : Sig.In laws_markRuleS.sg.ps) : denFn laws_markRuleS.E k Go.Proofs.Try.f69 laws_markRuleS.sg laws_markRuleS.hd (runL k laws_markRuleS.hd (laws_markRuleS.lps k)) x = laws_markRuleS.F k x := by kernel_rfl
theorem laws_markRuleS.ok (k : Nat) : Contract Try.prog 69 laws_markRuleS.sg (laws_markRuleS.F k) := ok_of (E := laws_markRuleS.E) (tysOk _ _) (eqsOk _) trivial Try.func69 rfl (by kernel_rfl) (laws_markRuleS.loops k) (laws_markRuleS.den k)
def laws_szRoute.sg : Sig := ⟨[.b kRoute, .b (.int .i64)], [((.int .i64), .rd)]⟩
def laws_szRoute.E : Env := ⟨tys, bys, [(242, ⟨laws_szAttrs.sg, laws_szAttrs.F⟩)], eqs⟩
def laws_szRoute.F (k : Nat) (x : ((Int × ((Int × (Int × Unit)) × ((Int × ((List Int) × (Int × (Int × (Int × Unit))))) × Unit))) × (Int × Unit))) : Option ((Int × Unit) × Unit) :=
  (laws_szAttrs.F k (x.1.2.2.1, x.2)).bind fun y0 =>
  bif (decide ((y0.1.1 < (0 : Int)))) then
  (some (((-(1 : Int)), ()), ()))
  else some y0
def laws_szRoute.hd : Hints := ⟨[], [], [4], [0, 1, 2], []⟩
def laws_szRoute.lps (k : Nat) : List (Nat × Lp laws_szRoute.sg.Out) := []
theorem laws_szRoute.loops (k : Nat) : LoopsOk laws_szRoute.E k laws_szRoute.hd (laws_szRoute.lps k) (loopsOf (Go.Proofs.Try.f162.body.getD .skip)) := trivial
theorem laws_szRoute.den (k : Nat) (x : Sig.In laws_szRoute.sg.ps) : denFn laws_szRoute.E k Go.Proofs.Try.f162 laws_szRoute.sg laws_szRoute.hd (runL k laws_szRoute.hd (laws_szRoute.lps k)) x = laws_szRoute.F k x := by kernel_rfl
theorem laws_szRoute.ok (k : Nat) : Contract Try.prog 162 laws_szRoute.sg (laws_szRoute.F k) := ok_of (E := laws_szRoute.E) (tysOk _ _) (eqsOk _) ⟨laws_szAttrs.ok k, trivial⟩ Try.func162 rfl (by kernel_rfl) (laws_szRoute.loops k) (laws_szRoute.den k)
def laws_szRouteS.sg : Sig := ⟨[.b (.sl kRoute), .b (.int .i64)], [((.int .i64), .rd)]⟩
def laws_szRouteS.E : Env := ⟨tys, bys, [(162, ⟨laws_szRoute.sg, laws_szRoute.F⟩)], eqs⟩
def laws_szRouteS.l5 {ρ : Type} (k : Nat) (c0 : (Int × Unit) → Option ρ) (c1 : (Int × Unit) → Option ρ) : Nat → List (Int × ((Int × (Int × Unit)) × ((Int × ((List Int) × (Int × (Int × (Int × Unit))))) × Unit))) → Int → Int → Option ρ
  | 0 => fun _ _ _ => none
  | n + 1 => fun x0 x1 x2 => 
    bif (decide ((x2 < (((List.length x0) : Nat) : Int)))) then
    (bif (Go.Dn.inB x2 (((List.length x0) : Nat) : Int)) then
      (Go.Dn.share (List.getD x0 (Int.toNat x2) ((0 : Int), (((0 : Int), ((0 : Int), ())), (((0 : Int), (([] : List Int), ((0 : Int), ((0 : Int), ((0 : Int), ()))))), ())))) fun s0 =>
        (laws_szRoute.F k (s0, x1, ())).bind fun y1 =>
        bif (decide ((y1.1.1 < (0 : Int)))) then
        (c0 ((-(1 : Int)), ()))
        else laws_szRouteS.l5 k c0 c1 n x0 y1.1.1 (IntKind.wrap .i64 (x2 + (1 : Int))))
      else none)
    else c1 (x1, ())
def laws_szRouteS.F (k : Nat) (x : ((List (Int × ((Int × (Int × Unit)) × ((Int × ((List Int) × (Int × (Int × (Int × Unit))))) × Unit)))) × (Int × Unit))) : Option ((Int × Unit) × Unit) :=
  bif (decide (((IntKind.wrap .i64 (x.2.1 - (((List.length x.1) : Nat) : Int))) < (0 : Int)))) then
  (some (((-(1 : Int)), ()), ()))
  else laws_szRouteS.l5 k (fun e2 =>
      some (e2, ())) (fun e3 =>
      some (e3, ())) k x.1 (IntKind.wrap .i64 (x.2.1 - (((List.length x.1) : Nat) : Int))) (0 : Int)
def laws_szRouteS.hd : Hints := ⟨[(5, ⟨[0, 1, 5], []⟩)], [(0, [1]), (1, [0, 1, 5])], [4], [0, 1, 5], []⟩
def laws_szRouteS.lps (k : Nat) : List (Nat × Lp laws_szRouteS.sg.Out) := [(5, ⟨[.l kRoute, .i, .i], fun x => (fun x0 x1 x2 => ⟨[(0, .v false [.fz kRoute x0]), (1, .v false [.int .i64 x1]), (5, .v false [.int .i64 x2])], [], []⟩) x.1 x.2.1 x.2.2.1, fun C n x => laws_szRouteS.l5 k (fun y => C .ret ((fun y0 => ⟨[(4, .v false [.int .i64 y0])], [], []⟩) y.1)) (fun y => C (.exit 0) ((fun y0 => ⟨[(1, .v false [.int .i64 y0])], [], []⟩) y.1)) n x.1 x.2.1 x.2.2.1⟩)]
theorem laws_szRouteS.loops (k : Nat) : LoopsOk laws_szRouteS.E k laws_szRouteS.hd (laws_szRouteS.lps k) (loopsOf (Go.Proofs.Try.f62.body.getD .skip)) := ⟨⟨fun _ _ => rfl, fun _ _ _ => by kernel_rfl, fun _ => ⟨rfl, rfl⟩⟩, trivial⟩
theorem laws_szRouteS.den (k : Nat) (x : Sig.In laws_szRouteS.sg.ps) : denFn laws_szRouteS.E k Go.Proofs.Try.f62 laws_szRouteS.sg laws_szRouteS.hd (runL k laws_szRouteS.hd (laws_szRouteS.lps k)) x = laws_szRouteS.F k x := by kernel_rfl
theorem laws_szRouteS.ok (k : Nat) : Contract Try.prog 62 laws_szRouteS.sg (laws_szRouteS.F k) := ok_of (E := laws_szRouteS.E) (tysOk _ _) (eqsOk _) ⟨laws_szRoute.ok k, trivial⟩ Try.func62 rfl (by kernel_rfl) (laws_szRouteS.loops k) (laws_szRouteS.den k)
def laws_toRoute.sg : Sig := ⟨[.b kRoute], [(kRoute, .dp)]⟩
def laws_toRoute.E : Env := ⟨tys, bys, [(246, ⟨laws_toPrefix.sg, laws_toPrefix.F⟩), (247, ⟨laws_toAttrs.sg, laws_toAttrs.F⟩)], eqs⟩
def laws_toRoute.F (k : Nat) (x : ((Int × ((Int × (Int × Unit)) × ((Int × ((List Int) × (Int × (Int × (Int × Unit))))) × Unit))) × Unit)) : Option (((Int × ((Int × (Int × Unit)) × ((Int × ((List Int) × (Int × (Int × (Int × Unit))))) × Unit))) × Unit) × Unit) :=
  (laws_toPrefix.F k (x.1.2.1, ())).bind fun y0 =>
  (laws_toAttrs.F k x.1.2.2).bind fun y1 =>
  some (((x.1.1, y0.1.1, y1.1), ()), ())
def laws_toRoute.hd : Hints := ⟨[], [], [2], [0, 1, 2, 3], []⟩
def laws_toRoute.lps (k : Nat) : List (Nat × Lp laws_toRoute.sg.Out) := []
theorem laws_toRoute.loops (k : Nat) : LoopsOk laws_toRoute.E k laws_toRoute.hd (laws_toRoute.lps k) (loopsOf (Go.Proofs.Try.f163.body.getD .skip)) := trivial
theorem laws_toRoute.den (k : Nat) (x : Sig.In laws_toRoute.sg.ps) : denFn laws_toRoute.E k Go.Proofs.Try.f163 laws_toRoute.sg laws_toRoute.hd (runL k laws_toRoute.hd (laws_toRoute.lps k)) x = laws_toRoute.F k x := by kernel_rfl
theorem laws_toRoute.ok (k : Nat) : Contract Try.prog 163 laws_toRoute.sg (laws_toRoute.F k) := ok_of (E := laws_toRoute.E) (tysOk _ _) (eqsOk _) ⟨laws_toPrefix.ok k, laws_toAttrs.ok k, trivial⟩ Try.func163 rfl (by kernel_rfl) (laws_toRoute.loops k) (laws_toRoute.den k)
def laws_toRouteS.sg : Sig := ⟨[.b (.sl kRoute)], [((.sl kRoute), .dp)]⟩
def laws_toRouteS.E : Env := ⟨tys, bys, [(163, ⟨laws_toRoute.sg, laws_toRoute.F⟩)], eqs⟩
def laws_toRouteS.l3 {ρ : Type} (k : Nat) (c0 : (List (Int × ((Int × (Int × Unit)) × ((Int × ((List Int) × (Int × (Int × (Int × Unit))))) × Unit))) × Unit) → Option ρ) : Nat → List (Int × ((Int × (Int × Unit)) × ((Int × ((List Int) × (Int × (Int × (Int × Unit))))) × Unit))) → Int → List (Int × ((Int × (Int × Unit)) × ((Int × ((List Int) × (Int × (Int × (Int × Unit))))) × Unit))) → Option ρ
  | 0 => fun _ _ _ => none
  | n + 1 => fun x0 x1 x2 => 
    bif (decide ((x1 < (((List.length x0) : Nat) : Int)))) then
    (bif (Go.Dn.inB x1 (((List.length x0) : Nat) : Int)) then
      (Go.Dn.share (List.getD x0 (Int.toNat x1) ((0 : Int), (((0 : Int), ((0 : Int), ())), (((0 : Int), (([] : List Int), ((0 : Int), ((0 : Int), ((0 : Int), ()))))), ())))) fun s0 =>
        (laws_toRoute.F k (s0, ())).bind fun y1 =>
        bif (Go.Dn.inB x1 (((List.length x2) : Nat) : Int)) then
        (Go.Dn.share (List.set x2 (Int.toNat x1) (y1.1.1.1, y1.1.1.2.1, (y1.1.1.2.2.1.1, y1.1.1.2.2.1.2.1, y1.1.1.2.2.1.2.2.1, y1.1.1.2.2.1.2.2.2.1, y1.1.1.2.2.1.2.2.2.2.1, (List.getD x2 (Int.toNat x1) ((0 : Int), (((0 : Int), ((0 : Int), ())), (((0 : Int), (([] : List Int), ((0 : Int), ((0 : Int), ((0 : Int), ()))))), ())))).2.2.1.2.2.2.2.2), (List.getD x2 (Int.toNat x1) ((0 : Int), (((0 : Int), ((0 : Int), ())), (((0 : Int), (([] : List Int), ((0 : Int), ((0 : Int), ((0 : Int), ()))))), ())))).2.2.2)) fun s2 =>
          laws_toRouteS.l3 k c0 n x0 (IntKind.wrap .i64 (x1 + (1 : Int))) s2)
        else none)
      else none)
    else c0 (x2, ())
def laws_toRouteS.F (k : Nat) (x : ((List (Int × ((Int × (Int × Unit)) × ((Int × ((List Int) × (Int × (Int × (Int × Unit))))) × Unit)))) × Unit)) : Option (((List (Int × ((Int × (Int × Unit)) × ((Int × ((List Int) × (Int × (Int × (Int × Unit))))) × Unit)))) × Unit) × Unit) :=
  bif (decide (((((List.length x.1) : Nat) : Int) ≤ (((List.length x.1) : Nat) : Int)))) then
  (bif (Go.Dn.roomy (Int.toNat (((List.length x.1) : Nat) : Int)) 80) then
    (laws_toRouteS.l3 k (fun e3 =>
        some (e3, ())) k x.1 (0 : Int) (List.replicate (Int.toNat (((List.length x.1) : Nat) : Int)) ((0 : Int), (((0 : Int), ((0 : Int), ())), (((0 : Int), (([] : List Int), ((0 : Int), ((0 : Int), ((0 : Int), ()))))), ())))))
    else none)
  else none
def laws_toRouteS.hd : Hints := ⟨[(3, ⟨[0, 3, 4], []⟩)], [(0, [3]), (1, [0, 3, 4])], [2], [0, 3, 4], []⟩
def laws_toRouteS.lps (k : Nat) : List (Nat × Lp laws_toRouteS.sg.Out) := [(3, ⟨[.l kRoute, .i, .l kRoute], fun x => (fun x0 x1 x2 => ⟨[(0, .v false [.fz kRoute x0]), (3, .v false [.arr 0]), (4, .v false [.int .i64 x1])], [(0, .arr kRoute true false x2)], []⟩) x.1 x.2.1 x.2.2.1, fun C n x => laws_toRouteS.l3 k (fun y => C (.exit 0) ((fun y0 => ⟨[(3, .v false [.arr 0])], [(0, .arr kRoute true false y0)], []⟩) y.1)) n x.1 x.2.1 x.2.2.1⟩)]
theorem laws_toRouteS.loops (k : Nat) : LoopsOk laws_toRouteS.E k laws_toRouteS.hd (laws_toRouteS.lps k) (loopsOf (Go.Proofs.Try.f64.body.getD .skip)) := ⟨⟨fun _ _ => rfl, fun _ _ _ => by kernel_rfl, fun _ => ⟨rfl, rfl⟩⟩, trivial⟩
theorem laws_toRouteS.den (k : Nat) (x : Sig.In laws_toRouteS.sg.ps) : denFn laws_toRouteS.E k Go.Proofs.Try.f64 laws_toRouteS.sg laws_toRouteS.hd (runL k laws_toRouteS.hd (laws_toRouteS.lps k)) x = laws_toRouteS.F k x := by kernel_rfl
theorem laws_toRouteS.ok (k : Nat) : Contract Try.prog 64 laws_toRouteS.sg (laws_toRouteS.F k) := ok_of (E := laws_toRouteS.E) (tysOk _ _) (eqsOk _) ⟨laws_toRoute.ok k, trivial⟩ Try.func64 rfl (by kernel_rfl) (laws_toRouteS.loops k) (laws_toRouteS.den k)
def laws_eqRoute.sg : Sig := ⟨[.b kRoute, .b kRoute], [(.bool, .rd)]⟩
def laws_eqRoute.E : Env := ⟨tys, bys, [(249, ⟨laws_eqPrefix.sg, laws_eqPrefix.F⟩), (250, ⟨laws_eqAttrs.sg, laws_eqAttrs.F⟩)], eqs⟩
def laws_eqRoute.F (k : Nat) (x : ((Int × ((Int × (Int × Unit)) × ((Int × ((List Int) × (Int × (Int × (Int × Unit))))) × Unit))) × ((Int × ((Int × (Int × Unit)) × ((Int × ((List Int) × (Int × (Int × (Int × Unit))))) × Unit))) × Unit))) : Option ((Bool × Unit) × Unit) :=
  bif (x.1.1 != x.2.1.1) then
  (some ((false, ()), ()))
  else (laws_eqPrefix.F k (x.1.2.1, x.2.1.2.1, ())).bind fun y0 =>
    bif (!y0.1.1) then
    (some ((false, ()), ()))
    else (laws_eqAttrs.F k (x.1.2.2.1, x.2.1.2.2)).bind fun y1 =>
      bif (!y1.1.1) then
      (some ((false, ()), ()))
      else some ((true, ()), ())
def laws_eqRoute.hd : Hints := ⟨[], [], [4], [0, 1, 2, 3], []⟩
def laws_eqRoute.lps (k : Nat) : List (Nat × Lp laws_eqRoute.sg.Out) := []
theorem laws_eqRoute.loops (k : Nat) : LoopsOk laws_eqRoute.E k laws_eqRoute.hd (laws_eqRoute.lps k) (loopsOf (Go.Proofs.Try.f165.body.getD .skip)) := trivial
theorem laws_eqRoute.den (k : Nat) (x : Sig.In laws_eqRoute.sg.ps) : denFn laws_eqRoute.E k Go.Proofs.Try.f165 laws_eqRoute.sg laws_eqRoute.hd (runL k laws_eqRoute.hd (laws_eqRoute.lps k)) x = laws_eqRoute.F k x := by kernel_rfl
theorem laws_eqRoute.ok (k : Nat) : Contract Try.prog 165 laws_eqRoute.sg (laws_eqRoute.F k) := ok_of (E := laws_eqRoute.E) (tysOk _ _) (eqsOk _) ⟨laws_eqPrefix.ok k, laws_eqAttrs.ok k, trivial⟩ Try.func165 rfl (by kernel_rfl) (laws_eqRoute.loops k) (laws_eqRoute.den k)
def laws_eqRouteS.sg : Sig := ⟨[.b (.sl kRoute), .b (.sl kRoute)], [(.bool, .rd)]⟩
def laws_eqRouteS.E : Env := ⟨tys, bys, [(165, ⟨laws_eqRoute.sg, laws_eqRoute.F⟩)], eqs⟩
def laws_eqRouteS.l4 {ρ : Type} (k : Nat) (c0 : (Bool × Unit) → Option ρ) (c1 : Unit → Option ρ) : Nat → List (Int × ((Int × (Int × Unit)) × ((Int × ((List Int) × (Int × (Int × (Int × Unit))))) × Unit))) → List (Int × ((Int × (Int × Unit)) × ((Int × ((List Int) × (Int × (Int × (Int × Unit))))) × Unit))) → Int → Option ρ
  | 0 => fun _ _ _ => none
  | n + 1 => fun x0 x1 x2 => 
    bif (decide ((x2 < (((List.length x0) : Nat) : Int)))) then
    (bif (Go.Dn.inB x2 (((List.length x0) : Nat) : Int)) then
      (Go.Dn.share (List.getD x0 (Int.toNat x2) ((0 : Int), (((0 : Int), ((0 : Int), ())), (((0 : Int), (([] : List Int), ((0 : Int), ((0 : Int), ((0 : Int), ()))))), ())))) fun s0 =>
        bif (Go.Dn.inB x2 (((List.length x1) : Nat) : Int)) then
        (Go.Dn.share (List.getD x1 (Int.toNat x2) ((0 : Int), (((0 : Int), ((0 : Int), ())), (((0 : Int), (([] : List Int), ((0 : Int), ((0 : Int), ((0 : Int), ()))))), ())))) fun s1 =>
          (laws_eqRoute.F k (s0, s1, ())).bind fun y2 =>
          bif (!y2.1.1) then
          (c0 (false, ()))
          else laws_eqRouteS.l4 k c0 c1 n x0 x1 (IntKind.wrap .i64 (x2 + (1 : Int))))
        else none)
      else none)
    else c1 (())
def laws_eqRouteS.F (k : Nat) (x : ((List (Int × ((Int × (Int × Unit)) × ((Int × ((List Int) × (Int × (Int × (Int × Unit))))) × Unit)))) × ((List (Int × ((Int × (Int × Unit)) × ((Int × ((List Int) × (Int × (Int × (Int × Unit))))) × Unit)))) × Unit))) : Option ((Bool × Unit) × Unit) :=
  bif ((((List.length x.1) : Nat) : Int) != (((List.length x.2.1) : Nat) : Int)) then
  (some ((false, ()), ()))
  else laws_eqRouteS.l4 k (fun e3 =>
      some (e3, ())) (fun e4 =>
      some ((true, ()), ())) k x.1 x.2.1 (0 : Int)
def laws_eqRouteS.hd : Hints := ⟨[(4, ⟨[0, 1, 5], []⟩)], [(0, []), (1, [0, 1, 5])], [4], [0, 1, 5], [(6, [0, 0, 3, 7, 0, 0, 48, 112, 255, 511])]⟩
def laws_eqRouteS.lps (k : Nat) : List (Nat × Lp laws_eqRouteS.sg.Out) := [(4, ⟨[.l kRoute, .l kRoute, .i], fun x => (fun x0 x1 x2 => ⟨[(0, .v false [.fz kRoute x0]), (1, .v false [.fz kRoute x1]), (5, .v false [.int .i64 x2])], [], []⟩) x.1 x.2.1 x.2.2.1, fun C n x => laws_eqRouteS.l4 k (fun y => C .ret ((fun y0 => ⟨[(4, .v false [.bool y0])], [], []⟩) y.1)) (fun _ => C (.exit 0) ⟨[], [], []⟩) n x.1 x.2.1 x.2.2.1⟩)]
theorem laws_eqRouteS.loops (k : Nat) : LoopsOk laws_eqRouteS.E k laws_eqRouteS.hd (laws_eqRouteS.lps k) (loopsOf (Go.Proofs.Try.f66.body.getD .skip)) := ⟨⟨fun _ _ => rfl, fun _ _ _ => by kernel_rfl, fun _ => ⟨rfl, rfl⟩⟩, trivial⟩
theorem laws_eqRouteS.den (k : Nat) (x : Sig.In laws_eqRouteS.sg.ps) : denFn laws_eqRouteS.E k Go.Proofs.Try.f66 laws_eqRouteS.sg laws_eqRouteS.hd (runL k laws_eqRouteS.hd (laws_eqRouteS.lps k)) x = laws_eqRouteS.F k x := by kernel_rfl
theorem laws_eqRouteS.ok (k : Nat) : Contract Try.prog 66 laws_eqRouteS.sg (laws_eqRouteS.F k) := ok_of (E := laws_eqRouteS.E) (tysOk _ _) (eqsOk _) ⟨laws_eqRoute.ok k, trivial⟩ Try.func66 rfl (by kernel_rfl) (laws_eqRouteS.loops k) (laws_eqRouteS.den k)

end
end Go.Proofs.Ythnidahfdnnboaa
set_option linter.unusedVariables false
set_option maxRecDepth 100000
namespace Go.Proofs.Ythnidahfdnnboaa
open Go Go.Dn
noncomputable section

def laws_markRouteS.sg : Sig := ⟨[.m (.sl kRoute), .b (.int .i64)], [((.int .i64), .rd)]⟩
def laws_markRouteS.E : Env := ⟨tys, bys, [(147, ⟨laws_markInt64S.sg, laws_markInt64S.F⟩)], eqs⟩
def laws_markRouteS.l2 {ρ : Type} (k : Nat) (c0 : (Int × (List (Int × ((Int × (Int × Unit)) × ((Int × ((List Int) × (Int × (Int × (Int × Unit))))) × Unit))) × Unit)) → Option ρ) : Nat → Int → Int → List (Int × ((Int × (Int × Unit)) × ((Int × ((List Int) × (Int × (Int × (Int × Unit))))) × Unit))) → Option ρ
  | 0 => fun _ _ _ => none
  | n + 1 => fun x0 x1 x2 => 
    bif (decide ((x1 < (((List.length x2) : Nat) : Int)))) then
    (bif (Go.Dn.inB x1 (((List.length x2) : Nat) : Int)) then
      (Go.Dn.share (List.set x2 (Int.toNat x1) (x0, (List.getD x2 (Int.toNat x1) ((0 : Int), (((0 : Int), ((0 : Int), ())), (((0 : Int), (([] : List Int), ((0 : Int), ((0 : Int), ((0 : Int), ()))))), ())))).2)) fun s0 =>
        bif (Go.Dn.inB x1 (((List.length s0) : Nat) : Int)) then
        (Go.Dn.share (List.set s0 (Int.toNat x1) ((List.getD s0 (Int.toNat x1) ((0 : Int), (((0 : Int), ((0 : Int), ())), (((0 : Int), (([] : List Int), ((0 : Int), ((0 : Int), ((0 : Int), ()))))), ())))).1, ((IntKind.wrap .i64 (x0 + (1 : Int))), (List.getD s0 (Int.toNat x1) ((0 : Int), (((0 : Int), ((0 : Int), ())), (((0 : Int), (([] : List Int), ((0 : Int), ((0 : Int), ((0 : Int), ()))))), ())))).2.1.2), (List.getD s0 (Int.toNat x1) ((0 : Int), (((0 : Int), ((0 : Int), ())), (((0 : Int), (([] : List Int), ((0 : Int), ((0 : Int), ((0 : Int), ()))))), ())))).2.2)) fun s1 =>
          bif (Go.Dn.inB x1 (((List.length s1) : Nat) : Int)) then
          (Go.Dn.share (List.set s1 (Int.toNat x1) ((List.getD s1 (Int.toNat x1) ((0 : Int), (((0 : Int), ((0 : Int), ())), (((0 : Int), (([] : List Int), ((0 : Int), ((0 : Int), ((0 : Int), ()))))), ())))).1, ((List.getD s1 (Int.toNat x1) ((0 : Int), (((0 : Int), ((0 : Int), ())), (((0 : Int), (([] : List Int), ((0 : Int), ((0 : Int), ((0 : Int), ()))))), ())))).2.1.1, (IntKind.wrap .i64 ((IntKind.wrap .i64 (x0 + (1 : Int))) + (1 : Int))), (List.getD s1 (Int.toNat x1) ((0 : Int), (((0 : Int), ((0 : Int), ())), (((0 : Int), (([] : List Int), ((0 : Int), ((0 : Int), ((0 : Int), ()))))), ())))).2.1.2.2), (List.getD s1 (Int.toNat x1) ((0 : Int), (((0 : Int), ((0 : Int), ())), (((0 : Int), (([] : List Int), ((0 : Int), ((0 : Int), ((0 : Int), ()))))), ())))).2.2)) fun s2 =>
            bif (Go.Dn.inB x1 (((List.length s2) : Nat) : Int)) then
            (Go.Dn.share (List.set s2 (Int.toNat x1) ((List.getD s2 (Int.toNat x1) ((0 : Int), (((0 : Int), ((0 : Int), ())), (((0 : Int), (([] : List Int), ((0 : Int), ((0 : Int), ((0 : Int), ()))))), ())))).1, (List.getD s2 (Int.toNat x1) ((0 : Int), (((0 : Int), ((0 : Int), ())), (((0 : Int), (([] : List Int), ((0 : Int), ((0 : Int), ((0 : Int), ()))))), ())))).2.1, ((IntKind.wrap .i64 ((IntKind.wrap .i64 ((IntKind.wrap .i64 (x0 + (1 : Int))) + (1 : Int))) + (1 : Int))), (List.getD s2 (Int.toNat x1) ((0 : Int), (((0 : Int), ((0 : Int), ())), (((0 : Int), (([] : List Int), ((0 : Int), ((0 : Int), ((0 : Int), ()))))), ())))).2.2.1.2), (List.getD s2 (Int.toNat x1) ((0 : Int), (((0 : Int), ((0 : Int), ())), (((0 : Int), (([] : List Int), ((0 : Int), ((0 : Int), ((0 : Int), ()))))), ())))).2.2.2)) fun s3 =>
              bif (Go.Dn.inB x1 (((List.length s3) : Nat) : Int)) then
              ((laws_markInt64S.F k ((List.getD s3 (Int.toNat x1) ((0 : Int), (((0 : Int), ((0 : Int), ())), (((0 : Int), (([] : List Int), ((0 : Int), ((0 : Int), ((0 : Int), ()))))), ())))).2.2.1.2.1, (IntKind.wrap .i64 ((IntKind.wrap .i64 ((IntKind.wrap .i64 ((IntKind.wrap .i64 (x0 + (1 : Int))) + (1 : Int))) + (1 : Int))) + (1 : Int))), ())).bind fun y4 =>
                Go.Dn.share (List.set s3 (Int.toNat x1) ((List.getD s3 (Int.toNat x1) ((0 : Int), (((0 : Int), ((0 : Int), ())), (((0 : Int), (([] : List Int), ((0 : Int), ((0 : Int), ((0 : Int), ()))))), ())))).1, (List.getD s3 (Int.toNat x1) ((0 : Int), (((0 : Int), ((0 : Int), ())), (((0 : Int), (([] : List Int), ((0 : Int), ((0 : Int), ((0 : Int), ()))))), ())))).2.1, ((List.getD s3 (Int.toNat x1) ((0 : Int), (((0 : Int), ((0 : Int), ())), (((0 : Int), (([] : List Int), ((0 : Int), ((0 : Int), ((0 : Int), ()))))), ())))).2.2.1.1, y4.2.1, (List.getD s3 (Int.toNat x1) ((0 : Int), (((0 : Int), ((0 : Int), ())), (((0 : Int), (([] : List Int), ((0 : Int), ((0 : Int), ((0 : Int), ()))))), ())))).2.2.1.2.2), (List.getD s3 (Int.toNat x1) ((0 : Int), (((0 : Int), ((0 : Int), ())), (((0 : Int), (([] : List Int), ((0 : Int), ((0 : Int), ((0 : Int), ()))))), ())))).2.2.2)) fun s5 =>
                bif (Go.Dn.inB x1 (((List.length s5) : Nat) : Int)) then
                (Go.Dn.share (List.set s5 (Int.toNat x1) ((List.getD s5 (Int.toNat x1) ((0 : Int), (((0 : Int), ((0 : Int), ())), (((0 : Int), (([] : List Int), ((0 : Int), ((0 : Int), ((0 : Int), ()))))), ())))).1, (List.getD s5 (Int.toNat x1) ((0 : Int), (((0 : Int), ((0 : Int), ())), (((0 : Int), (([] : List Int), ((0 : Int), ((0 : Int), ((0 : Int), ()))))), ())))).2.1, ((List.getD s5 (Int.toNat x1) ((0 : Int), (((0 : Int), ((0 : Int), ())), (((0 : Int), (([] : List Int), ((0 : Int), ((0 : Int), ((0 : Int), ()))))), ())))).2.2.1.1, (List.getD s5 (Int.toNat x1) ((0 : Int), (((0 : Int), ((0 : Int), ())), (((0 : Int), (([] : List Int), ((0 : Int), ((0 : Int), ((0 : Int), ()))))), ())))).2.2.1.2.1, y4.1.1, (List.getD s5 (Int.toNat x1) ((0 : Int), (((0 : Int), ((0 : Int), ())), (((0 : Int), (([] : List Int), ((0 : Int), ((0 : Int), ((0 : Int), ()))))), ())))).2.2.1.2.2.2), (List.getD s5 (Int.toNat x1) ((0 : Int), (((0 : Int), ((0 : Int), ())), (((0 : Int), (([] : List Int), ((0 : Int), ((0 : Int), ((0 : Int), ()))))), ())))).2.2.2)) fun s6 =>
                  bif (Go.Dn.inB x1 (((List.length s6) : Nat) : Int)) then
                  (Go.Dn.share (List.set s6 (Int.toNat x1) ((List.getD s6 (Int.toNat x1) ((0 : Int), (((0 : Int), ((0 : Int), ())), (((0 : Int), (([] : List Int), ((0 : Int), ((0 : Int), ((0 : Int), ()))))), ())))).1, (List.getD s6 (Int.toNat x1) ((0 : Int), (((0 : Int), ((0 : Int), ())), (((0 : Int), (([] : List Int), ((0 : Int), ((0 : Int), ((0 : Int), ()))))), ())))).2.1, ((List.getD s6 (Int.toNat x1) ((0 : Int), (((0 : Int), ((0 : Int), ())), (((0 : Int), (([] : List Int), ((0 : Int), ((0 : Int), ((0 : Int), ()))))), ())))).2.2.1.1, (List.getD s6 (Int.toNat x1) ((0 : Int), (((0 : Int), ((0 : Int), ())), (((0 : Int), (([] : List Int), ((0 : Int), ((0 : Int), ((0 : Int), ()))))), ())))).2.2.1.2.1, (List.getD s6 (Int.toNat x1) ((0 : Int), (((0 : Int), ((0 : Int), ())), (((0 : Int), (([] : List Int), ((0 : Int), ((0 : Int), ((0 : Int), ()))))), ())))).2.2.1.2.2.1, (IntKind.wrap .i64 (y4.1.1 + (1 : Int))), (List.getD s6 (Int.toNat x1) ((0 : Int), (((0 : Int), ((0 : Int), ())), (((0 : Int), (([] : List Int), ((0 : Int), ((0 : Int), ((0 : Int), ()))))), ())))).2.2.1.2.2.2.2), (List.getD s6 (Int.toNat x1) ((0 : Int), (((0 : Int), ((0 : Int), ())), (((0 : Int), (([] : List Int), ((0 : Int), ((0 : Int), ((0 : Int), ()))))), ())))).2.2.2)) fun s7 =>
                    bif (Go.Dn.inB x1 (((List.length s7) : Nat) : Int)) then
                    (Go.Dn.share (List.set s7 (Int.toNat x1) ((List.getD s7 (Int.toNat x1) ((0 : Int), (((0 : Int), ((0 : Int), ())), (((0 : Int), (([] : List Int), ((0 : Int), ((0 : Int), ((0 : Int), ()))))), ())))).1, (List.getD s7 (Int.toNat x1) ((0 : Int), (((0 : Int), ((0 : Int), ())), (((0 : Int), (([] : List Int), ((0 : Int), ((0 : Int), ((0 : Int), ()))))), ())))).2.1, ((List.getD s7 (Int.toNat x1) ((0 : Int), (((0 : Int), ((0 : Int), ())), (((0 : Int), (([] : List Int), ((0 : Int), ((0 : Int), ((0 : Int), ()))))), ())))).2.2.1.1, (List.getD s7 (Int.toNat x1) ((0 : Int), (((0 : Int), ((0 : Int), ())), (((0 : Int), (([] : List Int), ((0 : Int), ((0 : Int), ((0 : Int), ()))))), ())))).2.2.1.2.1, (List.getD s7 (Int.toNat x1) ((0 : Int), (((0 : Int), ((0 : Int), ())), (((0 : Int), (([] : List Int), ((0 : Int), ((0 : Int), ((0 : Int), ()))))), ())))).2.2.1.2.2.1, (List.getD s7 (Int.toNat x1) ((0 : Int), (((0 : Int), ((0 : Int), ())), (((0 : Int), (([] : List Int), ((0 : Int), ((0 : Int), ((0 : Int), ()))))), ())))).2.2.1.2.2.2.1, (IntKind.wrap .i64 ((IntKind.wrap .i64 (y4.1.1 + (1 : Int))) + (1 : Int))), (List.getD s7 (Int.toNat x1) ((0 : Int), (((0 : Int), ((0 : Int), ())), (((0 : Int), (([] : List Int), ((0 : Int), ((0 : Int), ((0 : Int), ()))))), ())))).2.2.1.2.2.2.2.2), (List.getD s7 (Int.toNat x1) ((0 : Int), (((0 : Int), ((0 : Int), ())), (((0 : Int), (([] : List Int), ((0 : Int), ((0 : Int), ((0 : Int), ()))))), ())))).2.2.2)) fun s8 =>
                      laws_markRouteS.l2 k c0 n (IntKind.wrap .i64 ((IntKind.wrap .i64 ((IntKind.wrap .i64 (y4.1.1 + (1 : Int))) + (1 : Int))) + (1 : Int))) (IntKind.wrap .i64 (x1 + (1 : Int))) s8)
                    else none)
                  else none)
                else none)
              else none)
            else none)
          else none)
        else none)
      else none)
    else c0 (x0, x2, ())
def laws_markRouteS.F (k : Nat) (x : ((List (Int × ((Int × (Int × Unit)) × ((Int × ((List Int) × (Int × (Int × (Int × Unit))))) × Unit)))) × (Int × Unit))) : Option ((Int × Unit) × ((List (Int × ((Int × (Int × Unit)) × ((Int × ((List Int) × (Int × (Int × (Int × Unit))))) × Unit)))) × Unit)) :=
  laws_markRouteS.l2 k (fun e9 =>
    some ((e9.1, ()), e9.2)) k x.2.1 (0 : Int) x.1
def laws_markRouteS.hd : Hints := ⟨[(2, ⟨[0, 1, 5], []⟩)], [(0, [1]), (1, [0, 1, 5])], [4], [0, 1, 5], []⟩
def laws_markRouteS.lps (k : Nat) : List (Nat × Lp laws_markRouteS.sg.Out) := [(2, ⟨[.i, .i, .l kRoute], fun x => (fun x0 x1 x2 => ⟨[(0, .v false [.arr 0]), (1, .v false [.int .i64 x0]), (5, .v false [.int .i64 x1])], [(0, .arr kRoute true false x2)], [.arr 0]⟩) x.1 x.2.1 x.2.2.1, fun C n x => laws_markRouteS.l2 k (fun y => C (.exit 0) ((fun y0 y1 => ⟨[(1, .v false [.int .i64 y0])], [(0, .arr kRoute true false y1)], [.arr 0]⟩) y.1 y.2.1)) n x.1 x.2.1 x.2.2.1⟩)]
theorem laws_markRouteS.loops (k : Nat) : LoopsOk laws_markRouteS.E k laws_markRouteS.hd (laws_markRouteS.lps k) (loopsOf (Go.Proofs.Try.f68.body.getD .skip)) := ⟨⟨fun _ _ => rfl, fun _ _ _ => by kernel_rfl, fun _ => ⟨rfl, rfl⟩⟩, trivial⟩
theorem laws_markRouteS.den (k : Nat) (x : Sig.In laws_markRouteS.sg.ps) : denFn laws_markRouteS.E k Go.Proofs.Try.f68 laws_markRouteS.sg laws_markRouteS.hd (runL k laws_markRouteS.hd (laws_markRouteS.lps k)) x = laws_markRouteS.F k x := by kernel_rfl
theorem laws_markRouteS.ok (k : Nat) : Contract Try.prog 68 laws_markRouteS.sg (laws_markRouteS.F k) := ok_of (E := laws_markRouteS.E) (tysOk _ _) (eqsOk _) ⟨laws_markInt64S.ok k, trivial⟩ Try.func68 rfl (by kernel_rfl) (laws_markRouteS.loops k) (laws_markRouteS.den k)
def laws_FnExactExportTo.sg : Sig := ⟨[.b (.sl kRoute), .b (.int .i64), .b (.sl kRule), .b (.int .i64), .b (.int .i64)], [(.bool, .rd)]⟩
def laws_FnExactExportTo.E : Env := ⟨tys, bys, [(26, ⟨impl_ExportTo.sg, impl_ExportTo.F⟩), (27, ⟨spec_ExportTo.sg, spec_ExportTo.F⟩), (46, ⟨laws_eqToldResult.sg, laws_eqToldResult.F⟩), (51, ⟨laws_markToldResult.sg, laws_markToldResult.F⟩), (52, ⟨laws_heldToldResult.sg, laws_heldToldResult.F⟩), (62, ⟨laws_szRouteS.sg, laws_szRouteS.F⟩), (63, ⟨laws_szRuleS.sg, laws_szRuleS.F⟩), (64, ⟨laws_toRouteS.sg, laws_toRouteS.F⟩), (65, ⟨laws_toRuleS.sg, laws_toRuleS.F⟩), (66, ⟨laws_eqRouteS.sg, laws_eqRouteS.F⟩), (67, ⟨laws_eqRuleS.sg, laws_eqRuleS.F⟩), (68, ⟨laws_markRouteS.sg, laws_markRouteS.F⟩), (69, ⟨laws_markRuleS.sg, laws_markRuleS.F⟩)], eqs⟩
def laws_FnExactExportTo.F (k : Nat) (x : ((List (Int × ((Int × (Int × Unit)) × ((Int × ((List Int) × (Int × (Int × (Int × Unit))))) × Unit)))) × (Int × ((List ((Int × (Int × Unit)) × (Int × (Int × (Int × (Bool × (Int × (Int × Unit)))))))) × (Int × (Int × Unit)))))) : Option ((Bool × Unit) × Unit) :=
  (laws_szRouteS.F k (x.1, (1048576 : Int), ())).bind fun y0 =>
  bif (decide ((y0.1.1 < (0 : Int)))) then
  (some ((true, ()), ()))
  else (laws_szRuleS.F k (x.2.2.1, y0.1)).bind fun y1 =>
    bif (decide ((y1.1.1 < (0 : Int)))) then
    (some ((true, ()), ()))
    else (laws_toRouteS.F k (x.1, ())).bind fun y2 =>
      (laws_toRuleS.F k (x.2.2.1, ())).bind fun y3 =>
      (spec_ExportTo.F k (y2.1.1, x.2.1, y3.1.1, x.2.2.2)).bind fun y4 =>
      (laws_toRouteS.F k (x.1, ())).bind fun y5 =>
      (laws_toRuleS.F k (x.2.2.1, ())).bind fun y6 =>
      (impl_ExportTo.F k (y5.1.1, x.2.1, y6.1.1, x.2.2.2)).bind fun y7 =>
      (laws_eqToldResult.F k (y7.1.1, y4.1)).bind fun y8 =>
      bif (!y8.1.1) then
      (some ((false, ()), ()))
      else (laws_toRouteS.F k (x.1, ())).bind fun y9 =>
        (laws_eqRouteS.F k (y5.1.1, y9.1)).bind fun y10 =>
        bif (!y10.1.1) then
        (some ((false, ()), ()))
        else (laws_toRuleS.F k (x.2.2.1, ())).bind fun y11 =>
          (laws_eqRuleS.F k (y6.1.1, y11.1)).bind fun y12 =>
          bif (!y12.1.1) then
          (some ((false, ()), ()))
          else (laws_markRouteS.F k (y5.1.1, (1 : Int), ())).bind fun y13 =>
            (laws_markRuleS.F k (y6.1.1, y13.1)).bind fun y14 =>
            bif (decide ((y14.1.1 < (0 : Int)))) then
            (some ((false, ()), ()))
            else (laws_eqToldResult.F k (y7.1.1, y4.1)).bind fun y15 =>
              bif (!y15.1.1) then
              (some ((false, ()), ()))
              else (laws_markToldResult.F k (y7.1.1, (1 : Int), ())).bind fun y16 =>
                (laws_heldToldResult.F k ((y7.1.1.1, y16.2.1.2), (1 : Int), ())).bind fun y17 =>
                bif (decide ((y17.1.1 < (0 : Int)))) then
                (some ((false, ()), ()))
                else bif (y17.1.1 != y16.1.1) then
                  (some ((false, ()), ()))
                  else (laws_toRouteS.F k (x.1, ())).bind fun y18 =>
                    (laws_toRuleS.F k (x.2.2.1, ())).bind fun y19 =>
                    (impl_ExportTo.F k (y18.1.1, x.2.1, y19.1.1, x.2.2.2)).bind fun y20 =>
                    (laws_eqToldResult.F k (y20.1.1, y4.1)).bind fun y21 =>
                    bif (!y21.1.1) then
                    (some ((false, ()), ()))
                    else (laws_heldToldResult.F k ((y7.1.1.1, y16.2.1.2), (1 : Int), ())).bind fun y22 =>
                      bif (decide ((y22.1.1 < (0 : Int)))) then
                      (some ((false, ()), ()))
                      else bif (y22.1.1 != y16.1.1) then
                        (some ((false, ()), ()))
                        else some ((true, ()), ())
def laws_FnExactExportTo.hd : Hints := ⟨[], [], [10], [0, 1, 2, 3, 4, 11, 12, 13, 14, 15, 16, 17, 18, 19], []⟩
def laws_FnExactExportTo.lps (k : Nat) : List (Nat × Lp laws_FnExactExportTo.sg.Out) := []
theorem laws_FnExactExportTo.loops (k : Nat) : LoopsOk laws_FnExactExportTo.E k laws_FnExactExportTo.hd (laws_FnExactExportTo.lps k) (loopsOf (Go.Proofs.Try.f9.body.getD .skip)) := trivial
theorem laws_FnExactExportTo.den (k : Nat) (x : Sig.In laws_FnExactExportTo.sg.ps) : denFn laws_FnExactExportTo.E k Go.Proofs.Try.f9 laws_FnExactExportTo.sg laws_FnExactExportTo.hd (runL k laws_FnExactExportTo.hd (laws_FnExactExportTo.lps k)) x = laws_FnExactExportTo.F k x := by kernel_rfl
theorem laws_FnExactExportTo.ok (k : Nat) : Contract Try.prog 9 laws_FnExactExportTo.sg (laws_FnExactExportTo.F k) := ok_of (E := laws_FnExactExportTo.E) (tysOk _ _) (eqsOk _) ⟨impl_ExportTo.ok k, spec_ExportTo.ok k, laws_eqToldResult.ok k, laws_markToldResult.ok k, laws_heldToldResult.ok k, laws_szRouteS.ok k, laws_szRuleS.ok k, laws_toRouteS.ok k, laws_toRuleS.ok k, laws_eqRouteS.ok k, laws_eqRuleS.ok k, laws_markRouteS.ok k, laws_markRuleS.ok k, trivial⟩ Try.func9 rfl (by kernel_rfl) (laws_FnExactExportTo.loops k) (laws_FnExactExportTo.den k)

end
end Go.Proofs.Ythnidahfdnnboaa
