/- What a node does with a mail that it hears, the program's HearMail and the reference's HearMail tell alike, whatever node and mail there are. -/
import Derived.Test.YthnidahfdnnboaaProg
import Derived.KernelRfl
import Derived.Test.YthnidahfdnnboaaYthHM20
import Derived.Test.YthnidahfdnnboaaYthHM21
import Derived.Test.YthnidahfdnnboaaYthHM22
set_option linter.unusedVariables false
set_option maxRecDepth 100000
namespace Go.Proofs.Ythnidahfdnnboaa
open Go Go.Dn
noncomputable section
def kerrorAddressString : K := (.pair .str (.pair (.int .u64) .unit))
def kPrefix : K := (.pair (.int .i64) (.pair (.int .i64) .unit))
def kl1Src : K := (.pair (.sl (.int .u8)) (.pair (.int .i64) .unit))
def kConfig : K := (.pair (.int .i64) kPrefix)
def kFrame : K := (.pair (.int .i64) (.pair (.sl (.int .u8)) .unit))
def kboundsError : K := (.pair (.int .i64) (.pair (.int .i64) (.pair .bool (.pair (.int .u8) .unit))))
def kEvent : K := (.pair (.int .i64) kFrame)
def kAttrs : K := (.pair (.int .i64) (.pair (.sl (.int .i64)) kConfig))
def kWire : K := (.pair (.int .i64) (.pair (.sl (.int .u8)) kFrame))
def kSession : K := (.pair (.int .i64) (.pair (.int .i64) kConfig))
def kEntry : K := (.pair (.int .i64) (.pair kEvent .unit))
def kTold : K := (.pair kPrefix (.pair kAttrs .unit))
def kRule : K := (.pair kPrefix (.pair (.int .i64) (.pair (.int .i64) (.pair (.int .i64) (.pair .bool kPrefix)))))
def kUpdate : K := (.pair (.sl kPrefix) (.pair .bool (.pair kAttrs (.pair (.sl kPrefix) .unit))))
def kRoute : K := (.pair (.int .i64) kTold)
def kAttrsResult : K := (.pair (.int .i64) (.pair (.int .i64) (.pair kAttrs .unit)))
def kWireResult : K := (.pair (.int .i64) (.pair (.sl (.int .u8)) (.pair kWire .unit)))
def kToldResult : K := (.pair (.int .i64) (.pair (.sl kTold) .unit))
def kRouteResult : K := (.pair (.int .i64) (.pair kRoute .unit))
def kUpdatesResult : K := (.pair (.int .i64) (.pair (.sl kUpdate) .unit))
def kLink : K := (.pair kSession (.pair (.sl (.int .u8)) (.pair (.sl kTold) .unit)))
def kNode : K := (.pair (.int .i64) (.pair .bool (.pair (.int .i64) (.pair (.int .i64) (.pair (.sl kEntry) (.pair (.int .i64) kConfig))))))
def kSettings : K := (.pair kConfig (.pair (.int .i64) (.pair (.sl kRule) (.pair (.sl kRule) .unit))))
def kMail : K := (.pair (.int .i64) (.pair (.int .i64) (.pair (.int .i64) (.pair (.int .i64) (.pair (.int .i64) (.pair .bool (.pair kEntry .unit)))))))
def kRouter : K := (.pair kSettings (.pair (.sl kLink) (.pair (.sl kRoute) .unit)))
def kMessage : K := (.pair (.int .i64) (.pair (.int .i64) (.pair (.int .i64) (.pair (.int .i64) (.pair (.int .i64) (.pair (.int .i64) (.pair kUpdate .unit)))))))
def kRouterResult : K := (.pair (.int .i64) (.pair kRouter (.pair (.sl (.sl (.int .u8))) .unit)))
def kNodeResult : K := (.pair (.int .i64) (.pair kNode (.pair (.sl kMail) .unit)))
def kPair : K := (.pair kSettings (.pair (.sl kNode) (.pair (.sl kWire) (.pair (.sl kMail) (.pair (.sl kEntry) .unit)))))
def kPairResult : K := (.pair (.int .i64) (.pair (.sl (.int .u8)) (.pair kPair .unit)))
def tys : List (Nat × K) := [(2, (.int .i64)), (3, (.int .i64)), (4, .bool), (5, (.int .u8)), (6, (.int .u8)), (7, kboundsError), (8, kboundsError), (9, .str), (10, .str), (11, .str), (12, (.int .u64)), (13, kerrorAddressString), (14, kerrorAddressString), (21, (.int .i32)), (22, (.sl (.int .u8))), (24, (.sl kTold)), (27, (.sl kUpdate)), (28, kUpdatesResult), (29, kUpdatesResult), (32, (.sl kPrefix)), (33, (.sl (.int .i64))), (34, kAttrs), (35, kAttrs), (36, kUpdate), (37, kUpdate), (38, kToldResult), (39, kToldResult), (43, (.sl kEntry)), (44, kNode), (45, kNode), (46, kEvent), (47, kEvent), (48, kEntry), (49, kEntry), (50, kMail), (51, kMail), (54, (.sl kMail)), (55, kNodeResult), (56, kNodeResult), (61, (.sl kRoute)), (62, (.sl kRule)), (66, kPrefix), (67, kPrefix), (68, kRoute), (69, kRoute), (70, kRouteResult), (71, kRouteResult), (73, kTold), (74, kTold), (76, (.sl kEntry)), (77, kNode), (78, kNode), (79, kEvent), (80, kEntry), (81, kEntry), (82, kMail), (83, kMail), (95, (.sl kTold)), (96, (.sl kUpdate)), (107, kConfig), (108, kConfig), (109, (.sl kRule)), (110, kSettings), (111, kSettings), (113, kConfig), (114, kSettings), (115, kSettings), (116, (.sl kNode)), (117, (.sl kWire)), (118, kPair), (119, kPair), (120, kPairResult), (121, kPairResult), (129, (.sl kRoute)), (139, (.sl kNode)), (140, (.sl kWire)), (141, (.sl kMail)), (142, kPair), (143, kPair), (195, kPrefix), (196, kAttrs), (197, kTold), (198, kTold), (200, (.sl kPrefix)), (201, kUpdate), (202, kUpdate), (213, kWire), (214, kWire), (216, (.sl kLink)), (217, kRouter), (218, kRouter), (219, (.sl (.sl (.int .u8)))), (220, kRouterResult), (221, kRouterResult), (228, kRoute), (229, kRoute), (231, kRule), (232, kRule), (234, kRule), (235, kRule), (262, (.sl (.sl kPrefix))), (282, kl1Src), (283, kl1Src), (289, kAttrsResult), (290, kAttrsResult), (313, kWire), (320, (.int .u64)), (321, (.sl (.int .i64))), (348, kMessage), (349, kMessage), (352, (.int .u32)), (355, (.int .u64)), (362, kFrame), (363, kFrame), (374, (.int .u8)), (375, (.int .u8)), (378, (.int .i32)), (379, (.int .i32)), (384, kSession), (385, kSession), (386, kLink), (387, kLink), (391, kWireResult), (392, kWireResult)]
def bys : List (Nat × Nat) := [(22, 1), (24, 72), (27, 112), (32, 16), (33, 8), (43, 48), (54, 96), (61, 80), (62, 64), (76, 48), (95, 72), (96, 112), (109, 64), (116, 88), (117, 64), (129, 80), (139, 88), (140, 64), (141, 96), (200, 16), (216, 88), (219, 24), (262, 24), (321, 8)]
def eqs : List Nat := [67, 108, 113, 195, 385]
theorem tysOk0 : TysOk Try.prog ⟨tys, bys, [], []⟩ := tysB_spec (by kernel_rfl)
theorem tysOk (fns : List (Nat × FEnt)) (es : List Nat) : TysOk Try.prog ⟨tys, bys, fns, es⟩ := tysOk0
theorem eqsOk0 : EqsOk Try.prog ⟨tys, bys, [], eqs⟩ := eqsB_spec tysOk0 (by kernel_rfl)
theorem eqsOk (fns : List (Nat × FEnt)) : EqsOk Try.prog ⟨tys, bys, fns, eqs⟩ := eqsOk0
def spec_l1In.sg : Sig := ⟨[.b (.int .i64), .b (.int .i64), .b (.int .i64)], [(.bool, .rd)]⟩
def spec_l1In.E : Env := ⟨tys, bys, [], eqs⟩
def spec_l1In.F (k : Nat) (x : (Int × (Int × (Int × Unit)))) : Option ((Bool × Unit) × Unit) :=
  bif (decide ((x.1 ≥ x.2.1))) then
  (some (((decide ((x.1 ≤ x.2.2.1))), ()), ()))
  else some ((false, ()), ())
def spec_l1In.hd : Hints := ⟨[], [], [6], [0, 1, 2], []⟩
def spec_l1In.lps (k : Nat) : List (Nat × Lp spec_l1In.sg.Out) := []
theorem spec_l1In.loops (k : Nat) : LoopsOk spec_l1In.E k spec_l1In.hd (spec_l1In.lps k) (loopsOf (Go.Proofs.Try.f121.body.getD .skip)) := trivial
theorem spec_l1In.den (k : Nat) (x : Sig.In spec_l1In.sg.ps) : denFn spec_l1In.E k Go.Proofs.Try.f121 spec_l1In.sg spec_l1In.hd (runL k spec_l1In.hd (spec_l1In.lps k)) x = spec_l1In.F k x := by kernel_rfl
theorem spec_l1In.ok (k : Nat) : Contract Try.prog 121 spec_l1In.sg (spec_l1In.F k) := ok_of (E := spec_l1In.E) (tysOk _ _) (eqsOk _) trivial Try.func121 rfl (by kernel_rfl) (spec_l1In.loops k) (spec_l1In.den k)
def impl_in.sg : Sig := ⟨[.b (.int .i64), .b (.int .i64), .b (.int .i64)], [(.bool, .rd)]⟩
def impl_in.E : Env := ⟨tys, bys, [], eqs⟩
def impl_in.F (k : Nat) (x : (Int × (Int × (Int × Unit)))) : Option ((Bool × Unit) × Unit) :=
  bif (decide ((x.1 ≥ x.2.1))) then
  (some (((decide ((x.1 ≤ x.2.2.1))), ()), ()))
  else some ((false, ()), ())
def impl_in.hd : Hints := ⟨[], [], [6], [0, 1, 2], []⟩
def impl_in.lps (k : Nat) : List (Nat × Lp impl_in.sg.Out) := []
theorem impl_in.loops (k : Nat) : LoopsOk impl_in.E k impl_in.hd (impl_in.lps k) (loopsOf (Go.Proofs.Try.f102.body.getD .skip)) := trivial
theorem impl_in.den (k : Nat) (x : Sig.In impl_in.sg.ps) : denFn impl_in.E k Go.Proofs.Try.f102 impl_in.sg impl_in.hd (runL k impl_in.hd (impl_in.lps k)) x = impl_in.F k x := by kernel_rfl
theorem impl_in.ok (k : Nat) : Contract Try.prog 102 impl_in.sg (impl_in.F k) := ok_of (E := impl_in.E) (tysOk _ _) (eqsOk _) trivial Try.func102 rfl (by kernel_rfl) (impl_in.loops k) (impl_in.den k)
def spec_l10Epoch.sg : Sig := ⟨[.b (.int .i64)], [(.bool, .rd)]⟩
def spec_l10Epoch.E : Env := ⟨tys, bys, [(121, ⟨spec_l1In.sg, spec_l1In.F⟩)], eqs⟩
def spec_l10Epoch.F (k : Nat) (x : (Int × Unit)) : Option ((Bool × Unit) × Unit) :=
  (spec_l1In.F k (x.1, (1 : Int), (1000 : Int), ())).bind fun y0 =>
  some y0
def spec_l10Epoch.hd : Hints := ⟨[], [], [2], [0], []⟩
def spec_l10Epoch.lps (k : Nat) : List (Nat × Lp spec_l10Epoch.sg.Out) := []
theorem spec_l10Epoch.loops (k : Nat) : LoopsOk spec_l10Epoch.E k spec_l10Epoch.hd (spec_l10Epoch.lps k) (loopsOf (Go.Proofs.Try.f211.body.getD .skip)) := trivial
theorem spec_l10Epoch.den (k : Nat) (x : Sig.In spec_l10Epoch.sg.ps) : denFn spec_l10Epoch.E k Go.Proofs.Try.f211 spec_l10Epoch.sg spec_l10Epoch.hd (runL k spec_l10Epoch.hd (spec_l10Epoch.lps k)) x = spec_l10Epoch.F k x := by kernel_rfl
theorem spec_l10Epoch.ok (k : Nat) : Contract Try.prog 211 spec_l10Epoch.sg (spec_l10Epoch.F k) := ok_of (E := spec_l10Epoch.E) (tysOk _ _) (eqsOk _) ⟨spec_l1In.ok k, trivial⟩ Try.func211 rfl (by kernel_rfl) (spec_l10Epoch.loops k) (spec_l10Epoch.den k)
def spec_l7Peer.sg : Sig := ⟨[.b (.int .i64)], [(.bool, .rd)]⟩
def spec_l7Peer.E : Env := ⟨tys, bys, [(121, ⟨spec_l1In.sg, spec_l1In.F⟩)], eqs⟩
def spec_l7Peer.F (k : Nat) (x : (Int × Unit)) : Option ((Bool × Unit) × Unit) :=
  (spec_l1In.F k (x.1, (0 : Int), (2 : Int), ())).bind fun y0 =>
  some y0
def spec_l7Peer.hd : Hints := ⟨[], [], [2], [0], []⟩
def spec_l7Peer.lps (k : Nat) : List (Nat × Lp spec_l7Peer.sg.Out) := []
theorem spec_l7Peer.loops (k : Nat) : LoopsOk spec_l7Peer.E k spec_l7Peer.hd (spec_l7Peer.lps k) (loopsOf (Go.Proofs.Try.f119.body.getD .skip)) := trivial
theorem spec_l7Peer.den (k : Nat) (x : Sig.In spec_l7Peer.sg.ps) : denFn spec_l7Peer.E k Go.Proofs.Try.f119 spec_l7Peer.sg spec_l7Peer.hd (runL k spec_l7Peer.hd (spec_l7Peer.lps k)) x = spec_l7Peer.F k x := by kernel_rfl
theorem spec_l7Peer.ok (k : Nat) : Contract Try.prog 119 spec_l7Peer.sg (spec_l7Peer.F k) := ok_of (E := spec_l7Peer.E) (tysOk _ _) (eqsOk _) ⟨spec_l1In.ok k, trivial⟩ Try.func119 rfl (by kernel_rfl) (spec_l7Peer.loops k) (spec_l7Peer.den k)
def spec_EventFault.sg : Sig := ⟨[.b kEvent], [((.int .i64), .rd)]⟩
def spec_EventFault.E : Env := ⟨tys, bys, [(119, ⟨spec_l7Peer.sg, spec_l7Peer.F⟩), (121, ⟨spec_l1In.sg, spec_l1In.F⟩)], eqs⟩
def spec_EventFault.F (k : Nat) (x : ((Int × (Int × ((List Int) × Unit))) × Unit)) : Option ((Int × Unit) × Unit) :=
  (spec_l1In.F k (x.1.1, (1 : Int), (4 : Int), ())).bind fun y0 =>
  bif (!y0.1.1) then
  (some (((1 : Int), ()), ()))
  else (spec_l7Peer.F k (x.1.2.1, ())).bind fun y1 =>
    bif (!y1.1.1) then
    (some (((3 : Int), ()), ()))
    else bif (x.1.1 == (3 : Int)) then
      (bif (x.1.2.1 != (0 : Int)) then
        (some (((3 : Int), ()), ()))
        else bif (!((decide (((((List.length x.1.2.2.1) : Nat) : Int) > (0 : Int)))) == (x.1.1 == (2 : Int)))) then
          (some (((1 : Int), ()), ()))
          else bif (decide (((((List.length x.1.2.2.1) : Nat) : Int) > (60 : Int)))) then
            (some (((2 : Int), ()), ()))
            else some (((0 : Int), ()), ()))
      else bif (!((decide (((((List.length x.1.2.2.1) : Nat) : Int) > (0 : Int)))) == (x.1.1 == (2 : Int)))) then
        (some (((1 : Int), ()), ()))
        else bif (decide (((((List.length x.1.2.2.1) : Nat) : Int) > (60 : Int)))) then
          (some (((2 : Int), ()), ()))
          else some (((0 : Int), ()), ())
def spec_EventFault.hd : Hints := ⟨[], [], [2], [0, 1], []⟩
def spec_EventFault.lps (k : Nat) : List (Nat × Lp spec_EventFault.sg.Out) := []
theorem spec_EventFault.loops (k : Nat) : LoopsOk spec_EventFault.E k spec_EventFault.hd (spec_EventFault.lps k) (loopsOf (Go.Proofs.Try.f287.body.getD .skip)) := trivial
theorem spec_EventFault.den (k : Nat) (x : Sig.In spec_EventFault.sg.ps) : denFn spec_EventFault.E k Go.Proofs.Try.f287 spec_EventFault.sg spec_EventFault.hd (runL k spec_EventFault.hd (spec_EventFault.lps k)) x = spec_EventFault.F k x := by kernel_rfl
theorem spec_EventFault.ok (k : Nat) : Contract Try.prog 287 spec_EventFault.sg (spec_EventFault.F k) := ok_of (E := spec_EventFault.E) (tysOk _ _) (eqsOk _) ⟨spec_l7Peer.ok k, spec_l1In.ok k, trivial⟩ Try.func287 rfl (by kernel_rfl) (spec_EventFault.loops k) (spec_EventFault.den k)
def spec_EntryFault.sg : Sig := ⟨[.b kEntry], [((.int .i64), .rd)]⟩
def spec_EntryFault.E : Env := ⟨tys, bys, [(211, ⟨spec_l10Epoch.sg, spec_l10Epoch.F⟩), (287, ⟨spec_EventFault.sg, spec_EventFault.F⟩)], eqs⟩
def spec_EntryFault.F (k : Nat) (x : ((Int × ((Int × (Int × ((List Int) × Unit))) × Unit)) × Unit)) : Option ((Int × Unit) × Unit) :=
  (spec_l10Epoch.F k (x.1.1, ())).bind fun y0 =>
  bif (!y0.1.1) then
  (some (((3 : Int), ()), ()))
  else (spec_EventFault.F k x.1.2).bind fun y1 =>
    some y1
def spec_EntryFault.hd : Hints := ⟨[], [], [2], [0, 1], []⟩
def spec_EntryFault.lps (k : Nat) : List (Nat × Lp spec_EntryFault.sg.Out) := []
theorem spec_EntryFault.loops (k : Nat) : LoopsOk spec_EntryFault.E k spec_EntryFault.hd (spec_EntryFault.lps k) (loopsOf (Go.Proofs.Try.f213.body.getD .skip)) := trivial
theorem spec_EntryFault.den (k : Nat) (x : Sig.In spec_EntryFault.sg.ps) : denFn spec_EntryFault.E k Go.Proofs.Try.f213 spec_EntryFault.sg spec_EntryFault.hd (runL k spec_EntryFault.hd (spec_EntryFault.lps k)) x = spec_EntryFault.F k x := by kernel_rfl
theorem spec_EntryFault.ok (k : Nat) : Contract Try.prog 213 spec_EntryFault.sg (spec_EntryFault.F k) := ok_of (E := spec_EntryFault.E) (tysOk _ _) (eqsOk _) ⟨spec_l10Epoch.ok k, spec_EventFault.ok k, trivial⟩ Try.func213 rfl (by kernel_rfl) (spec_EntryFault.loops k) (spec_EntryFault.den k)
def spec_l12Log.sg : Sig := ⟨[.r kNode], [((.int .i64), .rd)]⟩
def spec_l12Log.E : Env := ⟨tys, bys, [(213, ⟨spec_EntryFault.sg, spec_EntryFault.F⟩)], eqs⟩
def spec_l12Log.l4 {ρ : Type} (k : Nat) (c0 : (Int × Unit) → Option ρ) (c1 : Unit → Option ρ) : Nat → (Int × (Bool × (Int × (Int × ((List (Int × ((Int × (Int × ((List Int) × Unit))) × Unit))) × (Int × (Int × (Int × (Int × Unit))))))))) → Int → Option ρ
  | 0 => fun _ _ => none
  | n + 1 => fun x0 x1 => 
    bif (decide ((x1 < (((List.length x0.2.2.2.2.1) : Nat) : Int)))) then
    (bif (Go.Dn.inB x1 (((List.length x0.2.2.2.2.1) : Nat) : Int)) then
      (Go.Dn.share (List.getD x0.2.2.2.2.1 (Int.toNat x1) ((0 : Int), (((0 : Int), ((0 : Int), (([] : List Int), ()))), ()))) fun s0 =>
        (spec_EntryFault.F k (s0, ())).bind fun y1 =>
        bif (y1.1.1 != (0 : Int)) then
        (c0 (y1.1.1, ()))
        else bif (Go.Dn.inB x1 (((List.length x0.2.2.2.2.1) : Nat) : Int)) then
          (Go.Dn.share (List.getD x0.2.2.2.2.1 (Int.toNat x1) ((0 : Int), (((0 : Int), ((0 : Int), (([] : List Int), ()))), ()))) fun s2 =>
            bif (decide ((s2.1 > x0.2.2.2.1))) then
            (c0 ((1 : Int), ()))
            else bif (decide ((x1 > (0 : Int)))) then
              (bif (Go.Dn.inB x1 (((List.length x0.2.2.2.2.1) : Nat) : Int)) then
                (Go.Dn.share (List.getD x0.2.2.2.2.1 (Int.toNat x1) ((0 : Int), (((0 : Int), ((0 : Int), (([] : List Int), ()))), ()))) fun s3 =>
                  bif (Go.Dn.inB (IntKind.wrap .i64 (x1 - (1 : Int))) (((List.length x0.2.2.2.2.1) : Nat) : Int)) then
                  (Go.Dn.share (List.getD x0.2.2.2.2.1 (Int.toNat (IntKind.wrap .i64 (x1 - (1 : Int)))) ((0 : Int), (((0 : Int), ((0 : Int), (([] : List Int), ()))), ()))) fun s4 =>
                    bif (decide ((s3.1 < s4.1))) then
                    (c0 ((1 : Int), ()))
                    else spec_l12Log.l4 k c0 c1 n x0 (IntKind.wrap .i64 (x1 + (1 : Int))))
                  else none)
                else none)
              else spec_l12Log.l4 k c0 c1 n x0 (IntKind.wrap .i64 (x1 + (1 : Int))))
          else none)
      else none)
    else c1 (())
def spec_l12Log.F (k : Nat) (x : ((Int × (Bool × (Int × (Int × ((List (Int × ((Int × (Int × ((List Int) × Unit))) × Unit))) × (Int × (Int × (Int × (Int × Unit))))))))) × Unit)) : Option ((Int × Unit) × Unit) :=
  bif (decide (((((List.length x.1.2.2.2.2.1) : Nat) : Int) > (100 : Int)))) then
  (some (((2 : Int), ()), ()))
  else spec_l12Log.l4 k (fun e5 =>
      some (e5, ())) (fun e6 =>
      some (((0 : Int), ()), ())) k x.1 (0 : Int)
def spec_l12Log.hd : Hints := ⟨[(4, ⟨[0, 3], []⟩)], [(0, []), (1, [0, 3])], [2], [0, 3, 4], [(9, [0, 1, 3, 7, 0, 31, 63, 127, 0, 256, 768, 1792, 4095, 8191, 16383, 32767, 65535, 131071, 262143, 524287, 1048575, 131071, 4194303, 8388607, 16777215, 131071, 33685503, 100794367, 235012095, 131071, 537001983, 2114060287, 4261543935, 8556511231, 17179869183, 34359738367, 68719476735])]⟩
def spec_l12Log.lps (k : Nat) : List (Nat × Lp spec_l12Log.sg.Out) := [(4, ⟨[.x kNode, .i], fun x => (fun x0 x1 => ⟨[(0, .v false [.fel kNode x0 0]), (3, .v false [.int .i64 x1])], [], []⟩) x.1 x.2.1, fun C n x => spec_l12Log.l4 k (fun y => C .ret ((fun y0 => ⟨[(2, .v false [.int .i64 y0])], [], []⟩) y.1)) (fun _ => C (.exit 0) ⟨[], [], []⟩) n x.1 x.2.1⟩)]
theorem spec_l12Log.loops (k : Nat) : LoopsOk spec_l12Log.E k spec_l12Log.hd (spec_l12Log.lps k) (loopsOf (Go.Proofs.Try.f285.body.getD .skip)) := ⟨⟨fun _ _ => rfl, fun _ _ _ => by kernel_rfl, fun _ => ⟨rfl, rfl⟩⟩, trivial⟩
theorem spec_l12Log.den (k : Nat) (x : Sig.In spec_l12Log.sg.ps) : denFn spec_l12Log.E k Go.Proofs.Try.f285 spec_l12Log.sg spec_l12Log.hd (runL k spec_l12Log.hd (spec_l12Log.lps k)) x = spec_l12Log.F k x := by kernel_rfl
theorem spec_l12Log.ok (k : Nat) : Contract Try.prog 285 spec_l12Log.sg (spec_l12Log.F k) := ok_of (E := spec_l12Log.E) (tysOk _ _) (eqsOk _) ⟨spec_EntryFault.ok k, trivial⟩ Try.func285 rfl (by kernel_rfl) (spec_l12Log.loops k) (spec_l12Log.den k)
def spec_l12Fault.sg : Sig := ⟨[.r kNode], [((.int .i64), .rd)]⟩
def spec_l12Fault.E : Env := ⟨tys, bys, [(121, ⟨spec_l1In.sg, spec_l1In.F⟩), (285, ⟨spec_l12Log.sg, spec_l12Log.F⟩)], eqs⟩
def spec_l12Fault.F (k : Nat) (x : ((Int × (Bool × (Int × (Int × ((List (Int × ((Int × (Int × ((List Int) × Unit))) × Unit))) × (Int × (Int × (Int × (Int × Unit))))))))) × Unit)) : Option ((Int × Unit) × Unit) :=
  (spec_l1In.F k (x.1.1, (0 : Int), (1 : Int), ())).bind fun y0 =>
  bif (!y0.1.1) then
  (some (((3 : Int), ()), ()))
  else (spec_l1In.F k (x.1.2.2.1, (0 : Int), (1 : Int), ())).bind fun y1 =>
    bif (!y1.1.1) then
    (some (((3 : Int), ()), ()))
    else (spec_l1In.F k (x.1.2.2.2.1, (0 : Int), (1000 : Int), ())).bind fun y2 =>
      bif (!y2.1.1) then
      (some (((3 : Int), ()), ()))
      else (spec_l12Log.F k x).bind fun y3 =>
        bif (y3.1.1 != (0 : Int)) then
        (some y3)
        else (spec_l1In.F k (x.1.2.2.2.2.2.1, (0 : Int), (((List.length x.1.2.2.2.2.1) : Nat) : Int), ())).bind fun y4 =>
          bif (!y4.1.1) then
          (some (((3 : Int), ()), ()))
          else (spec_l1In.F k (x.1.2.2.2.2.2.2.1, (0 : Int), (((List.length x.1.2.2.2.2.1) : Nat) : Int), ())).bind fun y5 =>
            bif (!y5.1.1) then
            (some (((3 : Int), ()), ()))
            else (spec_l1In.F k (x.1.2.2.2.2.2.2.2.1, (0 : Int), (((List.length x.1.2.2.2.2.1) : Nat) : Int), ())).bind fun y6 =>
              bif (!y6.1.1) then
              (some (((3 : Int), ()), ()))
              else (spec_l1In.F k (x.1.2.2.2.2.2.2.2.2.1, (0 : Int), x.1.2.2.2.2.2.1, ())).bind fun y7 =>
                bif (!y7.1.1) then
                (some (((3 : Int), ()), ()))
                else bif (x.1.2.2.1 == (1 : Int)) then
                  (bif (!x.1.2.1) then
                    (some (((1 : Int), ()), ()))
                    else bif (x.1.2.2.2.1 == (0 : Int)) then
                      (some (((1 : Int), ()), ()))
                      else bif (x.1.2.2.2.2.2.2.1 != (0 : Int)) then
                        (some (((1 : Int), ()), ()))
                        else bif (!(x.1.2.2.1 == (1 : Int))) then
                          (bif (x.1.2.2.2.2.2.2.2.1 != (0 : Int)) then
                            (some (((1 : Int), ()), ()))
                            else bif (!x.1.2.1) then
                              (bif (x.1.2.2.2.2.2.1 != (((List.length x.1.2.2.2.2.1) : Nat) : Int)) then
                                (some (((1 : Int), ()), ()))
                                else bif (x.1.2.2.2.2.2.2.1 != (0 : Int)) then
                                  (some (((1 : Int), ()), ()))
                                  else bif (x.1.2.2.2.2.2.2.2.2.1 != (0 : Int)) then
                                    (some (((1 : Int), ()), ()))
                                    else some (((0 : Int), ()), ()))
                              else some (((0 : Int), ()), ()))
                          else bif (!x.1.2.1) then
                            (bif (x.1.2.2.2.2.2.1 != (((List.length x.1.2.2.2.2.1) : Nat) : Int)) then
                              (some (((1 : Int), ()), ()))
                              else bif (x.1.2.2.2.2.2.2.1 != (0 : Int)) then
                                (some (((1 : Int), ()), ()))
                                else bif (x.1.2.2.2.2.2.2.2.2.1 != (0 : Int)) then
                                  (some (((1 : Int), ()), ()))
                                  else some (((0 : Int), ()), ()))
                            else some (((0 : Int), ()), ()))
                  else bif (!(x.1.2.2.1 == (1 : Int))) then
                    (bif (x.1.2.2.2.2.2.2.2.1 != (0 : Int)) then
                      (some (((1 : Int), ()), ()))
                      else bif (!x.1.2.1) then
                        (bif (x.1.2.2.2.2.2.1 != (((List.length x.1.2.2.2.2.1) : Nat) : Int)) then
                          (some (((1 : Int), ()), ()))
                          else bif (x.1.2.2.2.2.2.2.1 != (0 : Int)) then
                            (some (((1 : Int), ()), ()))
                            else bif (x.1.2.2.2.2.2.2.2.2.1 != (0 : Int)) then
                              (some (((1 : Int), ()), ()))
                              else some (((0 : Int), ()), ()))
                        else some (((0 : Int), ()), ()))
                    else bif (!x.1.2.1) then
                      (bif (x.1.2.2.2.2.2.1 != (((List.length x.1.2.2.2.2.1) : Nat) : Int)) then
                        (some (((1 : Int), ()), ()))
                        else bif (x.1.2.2.2.2.2.2.1 != (0 : Int)) then
                          (some (((1 : Int), ()), ()))
                          else bif (x.1.2.2.2.2.2.2.2.2.1 != (0 : Int)) then
                            (some (((1 : Int), ()), ()))
                            else some (((0 : Int), ()), ()))
                      else some (((0 : Int), ()), ())
def spec_l12Fault.hd : Hints := ⟨[], [], [2], [0, 3, 4, 5], [(7, [0, 1, 3, 7, 0, 31, 63, 127, 255, 511, 1023, 2047, 255, 8191, 16383, 32767, 65535, 131071, 262143, 524287, 1048575, 131071, 4194303, 8388607, 16777215, 33554431, 67108863, 134217727, 268435455, 536870911, 67108863, 1140850687, 3288334335, 7583301631, 17179869183, 34359738367, 68719476735])]⟩
def spec_l12Fault.lps (k : Nat) : List (Nat × Lp spec_l12Fault.sg.Out) := []
theorem spec_l12Fault.loops (k : Nat) : LoopsOk spec_l12Fault.E k spec_l12Fault.hd (spec_l12Fault.lps k) (loopsOf (Go.Proofs.Try.f210.body.getD .skip)) := trivial
theorem spec_l12Fault.den (k : Nat) (x : Sig.In spec_l12Fault.sg.ps) : denFn spec_l12Fault.E k Go.Proofs.Try.f210 spec_l12Fault.sg spec_l12Fault.hd (runL k spec_l12Fault.hd (spec_l12Fault.lps k)) x = spec_l12Fault.F k x := by kernel_rfl
theorem spec_l12Fault.ok (k : Nat) : Contract Try.prog 210 spec_l12Fault.sg (spec_l12Fault.F k) := ok_of (E := spec_l12Fault.E) (tysOk _ _) (eqsOk _) ⟨spec_l1In.ok k, spec_l12Log.ok k, trivial⟩ Try.func210 rfl (by kernel_rfl) (spec_l12Fault.loops k) (spec_l12Fault.den k)
def spec_l12Asked.sg : Sig := ⟨[.r kNode], [((.int .i64), .rd)]⟩
def spec_l12Asked.E : Env := ⟨tys, bys, [(210, ⟨spec_l12Fault.sg, spec_l12Fault.F⟩)], eqs⟩
def spec_l12Asked.F (k : Nat) (x : ((Int × (Bool × (Int × (Int × ((List (Int × ((Int × (Int × ((List Int) × Unit))) × Unit))) × (Int × (Int × (Int × (Int × Unit))))))))) × Unit)) : Option ((Int × Unit) × Unit) :=
  (spec_l12Fault.F k x).bind fun y0 =>
  bif (y0.1.1 != (0 : Int)) then
  (some y0)
  else bif (!x.1.2.1) then
    (some (((10 : Int), ()), ()))
    else some (((0 : Int), ()), ())
def spec_l12Asked.hd : Hints := ⟨[], [], [2], [0, 3], []⟩
def spec_l12Asked.lps (k : Nat) : List (Nat × Lp spec_l12Asked.sg.Out) := []
theorem spec_l12Asked.loops (k : Nat) : LoopsOk spec_l12Asked.E k spec_l12Asked.hd (spec_l12Asked.lps k) (loopsOf (Go.Proofs.Try.f97.body.getD .skip)) := trivial
theorem spec_l12Asked.den (k : Nat) (x : Sig.In spec_l12Asked.sg.ps) : denFn spec_l12Asked.E k Go.Proofs.Try.f97 spec_l12Asked.sg spec_l12Asked.hd (runL k spec_l12Asked.hd (spec_l12Asked.lps k)) x = spec_l12Asked.F k x := by kernel_rfl
theorem spec_l12Asked.ok (k : Nat) : Contract Try.prog 97 spec_l12Asked.sg (spec_l12Asked.F k) := ok_of (E := spec_l12Asked.E) (tysOk _ _) (eqsOk _) ⟨spec_l12Fault.ok k, trivial⟩ Try.func97 rfl (by kernel_rfl) (spec_l12Asked.loops k) (spec_l12Asked.den k)
def spec_l12Bad.sg : Sig := ⟨[.b (.int .i64)], [(kNodeResult, .fl)]⟩
def spec_l12Bad.E : Env := ⟨tys, bys, [], eqs⟩
def spec_l12Bad.F (k : Nat) (x : (Int × Unit)) : Option (((Int × ((Int × (Bool × (Int × (Int × ((List (Int × ((Int × (Int × ((List Int) × Unit))) × Unit))) × (Int × (Int × (Int × (Int × Unit))))))))) × ((List (Int × (Int × (Int × (Int × (Int × (Bool × ((Int × ((Int × (Int × ((List Int) × Unit))) × Unit)) × Unit)))))))) × Unit))) × Unit) × Unit) :=
  some (((x.1, ((0 : Int), false, (0 : Int), (0 : Int), ([] : List (Int × ((Int × (Int × ((List Int) × Unit))) × Unit))), (0 : Int), (0 : Int), (0 : Int), (0 : Int), ()), ([] : List (Int × (Int × (Int × (Int × (Int × (Bool × ((Int × ((Int × (Int × ((List Int) × Unit))) × Unit)) × Unit)))))))), ()), ()), ())
def spec_l12Bad.hd : Hints := ⟨[], [], [2], [0, 2], []⟩
def spec_l12Bad.lps (k : Nat) : List (Nat × Lp spec_l12Bad.sg.Out) := []
theorem spec_l12Bad.loops (k : Nat) : LoopsOk spec_l12Bad.E k spec_l12Bad.hd (spec_l12Bad.lps k) (loopsOf (Go.Proofs.Try.f98.body.getD .skip)) := trivial
theorem spec_l12Bad.den (k : Nat) (x : Sig.In spec_l12Bad.sg.ps) : denFn spec_l12Bad.E k Go.Proofs.Try.f98 spec_l12Bad.sg spec_l12Bad.hd (runL k spec_l12Bad.hd (spec_l12Bad.lps k)) x = spec_l12Bad.F k x := by kernel_rfl
theorem spec_l12Bad.ok (k : Nat) : Contract Try.prog 98 spec_l12Bad.sg (spec_l12Bad.F k) := ok_of (E := spec_l12Bad.E) (tysOk _ _) (eqsOk _) trivial Try.func98 rfl (by kernel_rfl) (spec_l12Bad.loops k) (spec_l12Bad.den k)
def spec_l12CopyEntry.sg : Sig := ⟨[.b kEntry], [(kEntry, .fl)]⟩
def spec_l12CopyEntry.E : Env := ⟨tys, bys, [], eqs⟩
def spec_l12CopyEntry.F (k : Nat) (x : ((Int × ((Int × (Int × ((List Int) × Unit))) × Unit)) × Unit)) : Option (((Int × ((Int × (Int × ((List Int) × Unit))) × Unit)) × Unit) × Unit) :=
  bif (Go.Dn.roomy ((List.length ([] : List Int)) + (List.length x.1.2.1.2.2.1)) 1) then
  (Go.Dn.share (([] : List Int) ++ x.1.2.1.2.2.1) fun s0 =>
    some (((x.1.1, (x.1.2.1.1, x.1.2.1.2.1, s0, ()), ()), ()), ()))
  else none
def spec_l12CopyEntry.hd : Hints := ⟨[], [], [2], [0, 1, 2], []⟩
def spec_l12CopyEntry.lps (k : Nat) : List (Nat × Lp spec_l12CopyEntry.sg.Out) := []
theorem spec_l12CopyEntry.loops (k : Nat) : LoopsOk spec_l12CopyEntry.E k spec_l12CopyEntry.hd (spec_l12CopyEntry.lps k) (loopsOf (Go.Proofs.Try.f288.body.getD .skip)) := trivial
theorem spec_l12CopyEntry.den (k : Nat) (x : Sig.In spec_l12CopyEntry.sg.ps) : denFn spec_l12CopyEntry.E k Go.Proofs.Try.f288 spec_l12CopyEntry.sg spec_l12CopyEntry.hd (runL k spec_l12CopyEntry.hd (spec_l12CopyEntry.lps k)) x = spec_l12CopyEntry.F k x := by kernel_rfl
theorem spec_l12CopyEntry.ok (k : Nat) : Contract Try.prog 288 spec_l12CopyEntry.sg (spec_l12CopyEntry.F k) := ok_of (E := spec_l12CopyEntry.E) (tysOk _ _) (eqsOk _) trivial Try.func288 rfl (by kernel_rfl) (spec_l12CopyEntry.loops k) (spec_l12CopyEntry.den k)
def spec_l12Copy.sg : Sig := ⟨[.b kNode], [(kNode, .fl)]⟩
def spec_l12Copy.E : Env := ⟨tys, bys, [(288, ⟨spec_l12CopyEntry.sg, spec_l12CopyEntry.F⟩)], eqs⟩
def spec_l12Copy.l3 {ρ : Type} (k : Nat) (c0 : (Int × (Bool × (Int × (Int × (List (Int × ((Int × (Int × ((List Int) × Unit))) × Unit)) × (Int × (Int × (Int × (Int × (Int × (Bool × (Int × (Int × (Int × (Int × (Int × (Int × (List (Int × ((Int × (Int × ((List Int) × Unit))) × Unit)) × Unit)))))))))))))))))) → Option ρ) : Nat → Int → Int → Bool → Int → Int → List (Int × ((Int × (Int × ((List Int) × Unit))) × Unit)) → Int → Int → Int → Int → Int → Bool → Int → Int → Int → Int → Int → Int → List (Int × ((Int × (Int × ((List Int) × Unit))) × Unit)) → Option ρ
  | 0 => fun _ _ _ _ _ _ _ _ _ _ _ _ _ _ _ _ _ _ _ => none
  | n + 1 => fun x0 x1 x2 x3 x4 x5 x6 x7 x8 x9 x10 x11 x12 x13 x14 x15 x16 x17 x18 => 
    bif (decide ((x0 < (((List.length x5) : Nat) : Int)))) then
    (bif (Go.Dn.inB x0 (((List.length x5) : Nat) : Int)) then
      (Go.Dn.share (List.getD x5 (Int.toNat x0) ((0 : Int), (((0 : Int), ((0 : Int), (([] : List Int), ()))), ()))) fun s0 =>
        (spec_l12CopyEntry.F k (s0, ())).bind fun y1 =>
        bif (Go.Dn.roomy ((List.length x18) + (List.length [y1.1.1])) 48) then
        (Go.Dn.share (x18 ++ [y1.1.1]) fun s2 =>
          spec_l12Copy.l3 k c0 n (IntKind.wrap .i64 (x0 + (1 : Int))) x1 x2 x3 x4 x5 x6 x7 x8 x9 x10 x11 x12 x13 x14 x15 x16 x17 s2)
        else none)
      else none)
    else c0 (x1, x2, x3, x4, x5, x6, x7, x8, x9, x10, x11, x12, x13, x14, x15, x16, x17, x18, ())
def spec_l12Copy.F (k : Nat) (x : ((Int × (Bool × (Int × (Int × ((List (Int × ((Int × (Int × ((List Int) × Unit))) × Unit))) × (Int × (Int × (Int × (Int × Unit))))))))) × Unit)) : Option (((Int × (Bool × (Int × (Int × ((List (Int × ((Int × (Int × ((List Int) × Unit))) × Unit))) × (Int × (Int × (Int × (Int × Unit))))))))) × Unit) × Unit) :=
  spec_l12Copy.l3 k (fun e3 =>
    some (((e3.1, e3.2.1, e3.2.2.1, e3.2.2.2.1, e3.2.2.2.2.2.2.2.2.2.2.2.2.2.2.2.2.2.1, e3.2.2.2.2.2.1, e3.2.2.2.2.2.2.1, e3.2.2.2.2.2.2.2.1, e3.2.2.2.2.2.2.2.2.1, ()), ()), ())) k (0 : Int) x.1.1 x.1.2.1 x.1.2.2.1 x.1.2.2.2.1 x.1.2.2.2.2.1 x.1.2.2.2.2.2.1 x.1.2.2.2.2.2.2.1 x.1.2.2.2.2.2.2.2.1 x.1.2.2.2.2.2.2.2.2.1 (0 : Int) false (0 : Int) (0 : Int) (0 : Int) (0 : Int) (0 : Int) (0 : Int) ([] : List (Int × ((Int × (Int × ((List Int) × Unit))) × Unit)))
def spec_l12Copy.hd : Hints := ⟨[(3, ⟨[1, 2, 3, 4], []⟩)], [(0, [1, 2, 3]), (1, [1, 2, 3, 4])], [2], [0, 1, 2, 3, 4], []⟩
def spec_l12Copy.lps (k : Nat) : List (Nat × Lp spec_l12Copy.sg.Out) := [(3, ⟨[.i, .i, .b, .i, .i, .l kEntry, .i, .i, .i, .i, .i, .b, .i, .i, .i, .i, .i, .i, .l kEntry], fun x => (fun x0 x1 x2 x3 x4 x5 x6 x7 x8 x9 x10 x11 x12 x13 x14 x15 x16 x17 x18 => ⟨[(1, .v false [.box 0 0]), (2, .v false [.box 2 0]), (3, .v false [.arr 4]), (4, .v false [.int .i64 x0])], [(0, .box [.int .i64 x1, .bool x2, .int .i64 x3, .int .i64 x4, .fz kEntry x5, .int .i64 x6, .int .i64 x7, .int .i64 x8, .int .i64 x9]), (2, .box [.int .i64 x10, .bool x11, .int .i64 x12, .int .i64 x13, .nil, .int .i64 x14, .int .i64 x15, .int .i64 x16, .int .i64 x17]), (4, .arr kEntry true false x18)], []⟩) x.1 x.2.1 x.2.2.1 x.2.2.2.1 x.2.2.2.2.1 x.2.2.2.2.2.1 x.2.2.2.2.2.2.1 x.2.2.2.2.2.2.2.1 x.2.2.2.2.2.2.2.2.1 x.2.2.2.2.2.2.2.2.2.1 x.2.2.2.2.2.2.2.2.2.2.1 x.2.2.2.2.2.2.2.2.2.2.2.1 x.2.2.2.2.2.2.2.2.2.2.2.2.1 x.2.2.2.2.2.2.2.2.2.2.2.2.2.1 x.2.2.2.2.2.2.2.2.2.2.2.2.2.2.1 x.2.2.2.2.2.2.2.2.2.2.2.2.2.2.2.1 x.2.2.2.2.2.2.2.2.2.2.2.2.2.2.2.2.1 x.2.2.2.2.2.2.2.2.2.2.2.2.2.2.2.2.2.1 x.2.2.2.2.2.2.2.2.2.2.2.2.2.2.2.2.2.2.1, fun C n x => spec_l12Copy.l3 k (fun y => C (.exit 0) ((fun y0 y1 y2 y3 y4 y5 y6 y7 y8 y9 y10 y11 y12 y13 y14 y15 y16 y17 => ⟨[(1, .v false [.box 0 0]), (2, .v false [.box 2 0]), (3, .v false [.arr 4])], [(0, .box [.int .i64 y0, .bool y1, .int .i64 y2, .int .i64 y3, .fz kEntry y4, .int .i64 y5, .int .i64 y6, .int .i64 y7, .int .i64 y8]), (2, .box [.int .i64 y9, .bool y10, .int .i64 y11, .int .i64 y12, .nil, .int .i64 y13, .int .i64 y14, .int .i64 y15, .int .i64 y16]), (4, .arr kEntry true false y17)], []⟩) y.1 y.2.1 y.2.2.1 y.2.2.2.1 y.2.2.2.2.1 y.2.2.2.2.2.1 y.2.2.2.2.2.2.1 y.2.2.2.2.2.2.2.1 y.2.2.2.2.2.2.2.2.1 y.2.2.2.2.2.2.2.2.2.1 y.2.2.2.2.2.2.2.2.2.2.1 y.2.2.2.2.2.2.2.2.2.2.2.1 y.2.2.2.2.2.2.2.2.2.2.2.2.1 y.2.2.2.2.2.2.2.2.2.2.2.2.2.1 y.2.2.2.2.2.2.2.2.2.2.2.2.2.2.1 y.2.2.2.2.2.2.2.2.2.2.2.2.2.2.2.1 y.2.2.2.2.2.2.2.2.2.2.2.2.2.2.2.2.1 y.2.2.2.2.2.2.2.2.2.2.2.2.2.2.2.2.2.1)) n x.1 x.2.1 x.2.2.1 x.2.2.2.1 x.2.2.2.2.1 x.2.2.2.2.2.1 x.2.2.2.2.2.2.1 x.2.2.2.2.2.2.2.1 x.2.2.2.2.2.2.2.2.1 x.2.2.2.2.2.2.2.2.2.1 x.2.2.2.2.2.2.2.2.2.2.1 x.2.2.2.2.2.2.2.2.2.2.2.1 x.2.2.2.2.2.2.2.2.2.2.2.2.1 x.2.2.2.2.2.2.2.2.2.2.2.2.2.1 x.2.2.2.2.2.2.2.2.2.2.2.2.2.2.1 x.2.2.2.2.2.2.2.2.2.2.2.2.2.2.2.1 x.2.2.2.2.2.2.2.2.2.2.2.2.2.2.2.2.1 x.2.2.2.2.2.2.2.2.2.2.2.2.2.2.2.2.2.1 x.2.2.2.2.2.2.2.2.2.2.2.2.2.2.2.2.2.2.1⟩)]
theorem spec_l12Copy.loops (k : Nat) : LoopsOk spec_l12Copy.E k spec_l12Copy.hd (spec_l12Copy.lps k) (loopsOf (Go.Proofs.Try.f214.body.getD .skip)) := ⟨⟨fun _ _ => rfl, fun _ _ _ => by kernel_rfl, fun _ => ⟨rfl, rfl⟩⟩, trivial⟩
theorem spec_l12Copy.den (k : Nat) (x : Sig.In spec_l12Copy.sg.ps) : denFn spec_l12Copy.E k Go.Proofs.Try.f214 spec_l12Copy.sg spec_l12Copy.hd (runL k spec_l12Copy.hd (spec_l12Copy.lps k)) x = spec_l12Copy.F k x := by kernel_rfl
theorem spec_l12Copy.ok (k : Nat) : Contract Try.prog 214 spec_l12Copy.sg (spec_l12Copy.F k) := ok_of (E := spec_l12Copy.E) (tysOk _ _) (eqsOk _) ⟨spec_l12CopyEntry.ok k, trivial⟩ Try.func214 rfl (by kernel_rfl) (spec_l12Copy.loops k) (spec_l12Copy.den k)
def spec_l1Max.sg : Sig := ⟨[.b (.int .i64), .b (.int .i64)], [((.int .i64), .rd)]⟩
def spec_l1Max.E : Env := ⟨tys, bys, [], eqs⟩
def spec_l1Max.F (k : Nat) (x : (Int × (Int × Unit))) : Option ((Int × Unit) × Unit) :=
  bif (decide ((x.1 > x.2.1))) then
  (some ((x.1, ()), ()))
  else some (x.2, ())
def spec_l1Max.hd : Hints := ⟨[], [], [4], [0, 1], []⟩
def spec_l1Max.lps (k : Nat) : List (Nat × Lp spec_l1Max.sg.Out) := []
theorem spec_l1Max.loops (k : Nat) : LoopsOk spec_l1Max.E k spec_l1Max.hd (spec_l1Max.lps k) (loopsOf (Go.Proofs.Try.f280.body.getD .skip)) := trivial
theorem spec_l1Max.den (k : Nat) (x : Sig.In spec_l1Max.sg.ps) : denFn spec_l1Max.E k Go.Proofs.Try.f280 spec_l1Max.sg spec_l1Max.hd (runL k spec_l1Max.hd (spec_l1Max.lps k)) x = spec_l1Max.F k x := by kernel_rfl
theorem spec_l1Max.ok (k : Nat) : Contract Try.prog 280 spec_l1Max.sg (spec_l1Max.F k) := ok_of (E := spec_l1Max.E) (tysOk _ _) (eqsOk _) trivial Try.func280 rfl (by kernel_rfl) (spec_l1Max.loops k) (spec_l1Max.den k)
def spec_l1Min.sg : Sig := ⟨[.b (.int .i64), .b (.int .i64)], [((.int .i64), .rd)]⟩
def spec_l1Min.E : Env := ⟨tys, bys, [], eqs⟩
def spec_l1Min.F (k : Nat) (x : (Int × (Int × Unit))) : Option ((Int × Unit) × Unit) :=
  bif (decide ((x.1 < x.2.1))) then
  (some ((x.1, ()), ()))
  else some (x.2, ())
def spec_l1Min.hd : Hints := ⟨[], [], [4], [0, 1], []⟩
def spec_l1Min.lps (k : Nat) : List (Nat × Lp spec_l1Min.sg.Out) := []
theorem spec_l1Min.loops (k : Nat) : LoopsOk spec_l1Min.E k spec_l1Min.hd (spec_l1Min.lps k) (loopsOf (Go.Proofs.Try.f281.body.getD .skip)) := trivial
theorem spec_l1Min.den (k : Nat) (x : Sig.In spec_l1Min.sg.ps) : denFn spec_l1Min.E k Go.Proofs.Try.f281 spec_l1Min.sg spec_l1Min.hd (runL k spec_l1Min.hd (spec_l1Min.lps k)) x = spec_l1Min.F k x := by kernel_rfl
theorem spec_l1Min.ok (k : Nat) : Contract Try.prog 281 spec_l1Min.sg (spec_l1Min.F k) := ok_of (E := spec_l1Min.E) (tysOk _ _) (eqsOk _) trivial Try.func281 rfl (by kernel_rfl) (spec_l1Min.loops k) (spec_l1Min.den k)
def impl_size_impl_Entry.sg : Sig := ⟨[.b (.sl kEntry)], [((.int .i64), .rd)]⟩
def impl_size_impl_Entry.E : Env := ⟨tys, bys, [], eqs⟩
def impl_size_impl_Entry.F (k : Nat) (x : ((List (Int × ((Int × (Int × ((List Int) × Unit))) × Unit))) × Unit)) : Option ((Int × Unit) × Unit) :=
  some (((((List.length x.1) : Nat) : Int), ()), ())
def impl_size_impl_Entry.hd : Hints := ⟨[], [], [2], [0], []⟩
def impl_size_impl_Entry.lps (k : Nat) : List (Nat × Lp impl_size_impl_Entry.sg.Out) := []
theorem impl_size_impl_Entry.loops (k : Nat) : LoopsOk impl_size_impl_Entry.E k impl_size_impl_Entry.hd (impl_size_impl_Entry.lps k) (loopsOf (Go.Proofs.Try.f94.body.getD .skip)) := trivial
theorem impl_size_impl_Entry.den (k : Nat) (x : Sig.In impl_size_impl_Entry.sg.ps) : denFn impl_size_impl_Entry.E k Go.Proofs.Try.f94 impl_size_impl_Entry.sg impl_size_impl_Entry.hd (runL k impl_size_impl_Entry.hd (impl_size_impl_Entry.lps k)) x = impl_size_impl_Entry.F k x := by kernel_rfl
theorem impl_size_impl_Entry.ok (k : Nat) : Contract Try.prog 94 impl_size_impl_Entry.sg (impl_size_impl_Entry.F k) := ok_of (E := impl_size_impl_Entry.E) (tysOk _ _) (eqsOk _) trivial Try.func94 rfl (by kernel_rfl) (impl_size_impl_Entry.loops k) (impl_size_impl_Entry.den k)
def impl_isNode.sg : Sig := ⟨[.b (.int .i64)], [(.bool, .rd)]⟩
def impl_isNode.E : Env := ⟨tys, bys, [(102, ⟨impl_in.sg, impl_in.F⟩)], eqs⟩
def impl_isNode.F (k : Nat) (x : (Int × Unit)) : Option ((Bool × Unit) × Unit) :=
  (impl_in.F k (x.1, (0 : Int), (1 : Int), ())).bind fun y0 =>
  some y0
def impl_isNode.hd : Hints := ⟨[], [], [2], [0], []⟩
def impl_isNode.lps (k : Nat) : List (Nat × Lp impl_isNode.sg.Out) := []
theorem impl_isNode.loops (k : Nat) : LoopsOk impl_isNode.E k impl_isNode.hd (impl_isNode.lps k) (loopsOf (Go.Proofs.Try.f101.body.getD .skip)) := trivial
theorem impl_isNode.den (k : Nat) (x : Sig.In impl_isNode.sg.ps) : denFn impl_isNode.E k Go.Proofs.Try.f101 impl_isNode.sg impl_isNode.hd (runL k impl_isNode.hd (impl_isNode.lps k)) x = impl_isNode.F k x := by kernel_rfl
theorem impl_isNode.ok (k : Nat) : Contract Try.prog 101 impl_isNode.sg (impl_isNode.F k) := ok_of (E := impl_isNode.E) (tysOk _ _) (eqsOk _) ⟨impl_in.ok k, trivial⟩ Try.func101 rfl (by kernel_rfl) (impl_isNode.loops k) (impl_isNode.den k)
def impl_isEpoch.sg : Sig := ⟨[.b (.int .i64)], [(.bool, .rd)]⟩
def impl_isEpoch.E : Env := ⟨tys, bys, [(102, ⟨impl_in.sg, impl_in.F⟩)], eqs⟩
def impl_isEpoch.F (k : Nat) (x : (Int × Unit)) : Option ((Bool × Unit) × Unit) :=
  (impl_in.F k (x.1, (1 : Int), (1000 : Int), ())).bind fun y0 =>
  some y0
def impl_isEpoch.hd : Hints := ⟨[], [], [2], [0], []⟩
def impl_isEpoch.lps (k : Nat) : List (Nat × Lp impl_isEpoch.sg.Out) := []
theorem impl_isEpoch.loops (k : Nat) : LoopsOk impl_isEpoch.E k impl_isEpoch.hd (impl_isEpoch.lps k) (loopsOf (Go.Proofs.Try.f104.body.getD .skip)) := trivial
theorem impl_isEpoch.den (k : Nat) (x : Sig.In impl_isEpoch.sg.ps) : denFn impl_isEpoch.E k Go.Proofs.Try.f104 impl_isEpoch.sg impl_isEpoch.hd (runL k impl_isEpoch.hd (impl_isEpoch.lps k)) x = impl_isEpoch.F k x := by kernel_rfl
theorem impl_isEpoch.ok (k : Nat) : Contract Try.prog 104 impl_isEpoch.sg (impl_isEpoch.F k) := ok_of (E := impl_isEpoch.E) (tysOk _ _) (eqsOk _) ⟨impl_in.ok k, trivial⟩ Try.func104 rfl (by kernel_rfl) (impl_isEpoch.loops k) (impl_isEpoch.den k)
def impl_isPeer.sg : Sig := ⟨[.b (.int .i64)], [(.bool, .rd)]⟩
def impl_isPeer.E : Env := ⟨tys, bys, [(102, ⟨impl_in.sg, impl_in.F⟩)], eqs⟩
def impl_isPeer.F (k : Nat) (x : (Int × Unit)) : Option ((Bool × Unit) × Unit) :=
  (impl_in.F k (x.1, (0 : Int), (2 : Int), ())).bind fun y0 =>
  some y0
def impl_isPeer.hd : Hints := ⟨[], [], [2], [0], []⟩
def impl_isPeer.lps (k : Nat) : List (Nat × Lp impl_isPeer.sg.Out) := []
theorem impl_isPeer.loops (k : Nat) : LoopsOk impl_isPeer.E k impl_isPeer.hd (impl_isPeer.lps k) (loopsOf (Go.Proofs.Try.f113.body.getD .skip)) := trivial
theorem impl_isPeer.den (k : Nat) (x : Sig.In impl_isPeer.sg.ps) : denFn impl_isPeer.E k Go.Proofs.Try.f113 impl_isPeer.sg impl_isPeer.hd (runL k impl_isPeer.hd (impl_isPeer.lps k)) x = impl_isPeer.F k x := by kernel_rfl
theorem impl_isPeer.ok (k : Nat) : Contract Try.prog 113 impl_isPeer.sg (impl_isPeer.F k) := ok_of (E := impl_isPeer.E) (tysOk _ _) (eqsOk _) ⟨impl_in.ok k, trivial⟩ Try.func113 rfl (by kernel_rfl) (impl_isPeer.loops k) (impl_isPeer.den k)
def impl_EventFault.sg : Sig := ⟨[.b kEvent], [((.int .i64), .rd)]⟩
def impl_EventFault.E : Env := ⟨tys, bys, [(102, ⟨impl_in.sg, impl_in.F⟩), (113, ⟨impl_isPeer.sg, impl_isPeer.F⟩)], eqs⟩
def impl_EventFault.F (k : Nat) (x : ((Int × (Int × ((List Int) × Unit))) × Unit)) : Option ((Int × Unit) × Unit) :=
  (impl_in.F k (x.1.1, (1 : Int), (4 : Int), ())).bind fun y0 =>
  bif (!y0.1.1) then
  (some (((1 : Int), ()), ()))
  else (impl_isPeer.F k (x.1.2.1, ())).bind fun y1 =>
    bif (!y1.1.1) then
    (some (((3 : Int), ()), ()))
    else bif (x.1.1 == (3 : Int)) then
      (bif (x.1.2.1 != (0 : Int)) then
        (some (((3 : Int), ()), ()))
        else bif (!((x.1.1 == (2 : Int)) == (decide (((((List.length x.1.2.2.1) : Nat) : Int) > (0 : Int)))))) then
          (some (((1 : Int), ()), ()))
          else bif (decide (((((List.length x.1.2.2.1) : Nat) : Int) > (60 : Int)))) then
            (some (((2 : Int), ()), ()))
            else some (((0 : Int), ()), ()))
      else bif (!((x.1.1 == (2 : Int)) == (decide (((((List.length x.1.2.2.1) : Nat) : Int) > (0 : Int)))))) then
        (some (((1 : Int), ()), ()))
        else bif (decide (((((List.length x.1.2.2.1) : Nat) : Int) > (60 : Int)))) then
          (some (((2 : Int), ()), ()))
          else some (((0 : Int), ()), ())
def impl_EventFault.hd : Hints := ⟨[], [(0, [])], [2], [0, 1], []⟩
def impl_EventFault.lps (k : Nat) : List (Nat × Lp impl_EventFault.sg.Out) := []
theorem impl_EventFault.loops (k : Nat) : LoopsOk impl_EventFault.E k impl_EventFault.hd (impl_EventFault.lps k) (loopsOf (Go.Proofs.Try.f217.body.getD .skip)) := trivial
theorem impl_EventFault.den (k : Nat) (x : Sig.In impl_EventFault.sg.ps) : denFn impl_EventFault.E k Go.Proofs.Try.f217 impl_EventFault.sg impl_EventFault.hd (runL k impl_EventFault.hd (impl_EventFault.lps k)) x = impl_EventFault.F k x := by kernel_rfl
theorem impl_EventFault.ok (k : Nat) : Contract Try.prog 217 impl_EventFault.sg (impl_EventFault.F k) := ok_of (E := impl_EventFault.E) (tysOk _ _) (eqsOk _) ⟨impl_in.ok k, impl_isPeer.ok k, trivial⟩ Try.func217 rfl (by kernel_rfl) (impl_EventFault.loops k) (impl_EventFault.den k)
def impl_EntryFault.sg : Sig := ⟨[.b kEntry], [((.int .i64), .rd)]⟩
def impl_EntryFault.E : Env := ⟨tys, bys, [(104, ⟨impl_isEpoch.sg, impl_isEpoch.F⟩), (217, ⟨impl_EventFault.sg, impl_EventFault.F⟩)], eqs⟩
def impl_EntryFault.F (k : Nat) (x : ((Int × ((Int × (Int × ((List Int) × Unit))) × Unit)) × Unit)) : Option ((Int × Unit) × Unit) :=
  (impl_isEpoch.F k (x.1.1, ())).bind fun y0 =>
  bif (!y0.1.1) then
  (some (((3 : Int), ()), ()))
  else (impl_EventFault.F k x.1.2).bind fun y1 =>
    some y1
def impl_EntryFault.hd : Hints := ⟨[], [], [2], [0, 1], []⟩
def impl_EntryFault.lps (k : Nat) : List (Nat × Lp impl_EntryFault.sg.Out) := []
theorem impl_EntryFault.loops (k : Nat) : LoopsOk impl_EntryFault.E k impl_EntryFault.hd (impl_EntryFault.lps k) (loopsOf (Go.Proofs.Try.f103.body.getD .skip)) := trivial
theorem impl_EntryFault.den (k : Nat) (x : Sig.In impl_EntryFault.sg.ps) : denFn impl_EntryFault.E k Go.Proofs.Try.f103 impl_EntryFault.sg impl_EntryFault.hd (runL k impl_EntryFault.hd (impl_EntryFault.lps k)) x = impl_EntryFault.F k x := by kernel_rfl
theorem impl_EntryFault.ok (k : Nat) : Contract Try.prog 103 impl_EntryFault.sg (impl_EntryFault.F k) := ok_of (E := impl_EntryFault.E) (tysOk _ _) (eqsOk _) ⟨impl_isEpoch.ok k, impl_EventFault.ok k, trivial⟩ Try.func103 rfl (by kernel_rfl) (impl_EntryFault.loops k) (impl_EntryFault.den k)
def impl_NodeFault.sg : Sig := ⟨[.b kNode], [((.int .i64), .rd)]⟩
def impl_NodeFault.E : Env := ⟨tys, bys, [(94, ⟨impl_size_impl_Entry.sg, impl_size_impl_Entry.F⟩), (101, ⟨impl_isNode.sg, impl_isNode.F⟩), (102, ⟨impl_in.sg, impl_in.F⟩), (103, ⟨impl_EntryFault.sg, impl_EntryFault.F⟩)], eqs⟩
def impl_NodeFault.l6 {ρ : Type} (k : Nat) (c0 : (Int × Unit) → Option ρ) (c1 : (Int × (Bool × (Int × (Int × (List (Int × ((Int × (Int × ((List Int) × Unit))) × Unit)) × (Int × (Int × (Int × (Int × Unit))))))))) → Option ρ) : Nat → List (Int × ((Int × (Int × ((List Int) × Unit))) × Unit)) → Int → Int → Int → Bool → Int → Int → List (Int × ((Int × (Int × ((List Int) × Unit))) × Unit)) → Int → Int → Int → Int → Option ρ
  | 0 => fun _ _ _ _ _ _ _ _ _ _ _ _ => none
  | n + 1 => fun x0 x1 x2 x3 x4 x5 x6 x7 x8 x9 x10 x11 => 
    bif (decide ((x2 < x1))) then
    (bif (Go.Dn.inB x2 (((List.length x0) : Nat) : Int)) then
      (Go.Dn.share (List.getD x0 (Int.toNat x2) ((0 : Int), (((0 : Int), ((0 : Int), (([] : List Int), ()))), ()))) fun s3 =>
        (impl_EntryFault.F k (s3, ())).bind fun y4 =>
        bif (y4.1.1 != (0 : Int)) then
        (c0 (y4.1.1, ()))
        else bif (decide ((s3.1 > x6))) then
          (c0 ((1 : Int), ()))
          else bif (decide ((x2 > (0 : Int)))) then
            (bif (Go.Dn.inB (IntKind.wrap .i64 (x2 - (1 : Int))) (((List.length x7) : Nat) : Int)) then
              (Go.Dn.share (List.getD x7 (Int.toNat (IntKind.wrap .i64 (x2 - (1 : Int)))) ((0 : Int), (((0 : Int), ((0 : Int), (([] : List Int), ()))), ()))) fun s5 =>
                bif (decide ((s3.1 < s5.1))) then
                (c0 ((1 : Int), ()))
                else impl_NodeFault.l6 k c0 c1 n x0 x1 (IntKind.wrap .i64 (x2 + (1 : Int))) x3 x4 x5 x6 x7 x8 x9 x10 x11)
              else none)
            else impl_NodeFault.l6 k c0 c1 n x0 x1 (IntKind.wrap .i64 (x2 + (1 : Int))) x3 x4 x5 x6 x7 x8 x9 x10 x11)
      else none)
    else c1 (x3, x4, x5, x6, x7, x8, x9, x10, x11, ())
def impl_NodeFault.F (k : Nat) (x : ((Int × (Bool × (Int × (Int × ((List (Int × ((Int × (Int × ((List Int) × Unit))) × Unit))) × (Int × (Int × (Int × (Int × Unit))))))))) × Unit)) : Option ((Int × Unit) × Unit) :=
  (impl_isNode.F k (x.1.1, ())).bind fun y0 =>
  bif (!y0.1.1) then
  (some (((3 : Int), ()), ()))
  else (impl_in.F k (x.1.2.2.1, (0 : Int), (1 : Int), ())).bind fun y1 =>
    bif (!y1.1.1) then
    (some (((3 : Int), ()), ()))
    else (impl_in.F k (x.1.2.2.2.1, (0 : Int), (1000 : Int), ())).bind fun y2 =>
      bif (!y2.1.1) then
      (some (((3 : Int), ()), ()))
      else bif (decide (((((List.length x.1.2.2.2.2.1) : Nat) : Int) > (100 : Int)))) then
        (some (((2 : Int), ()), ()))
        else impl_NodeFault.l6 k (fun e6 =>
            some (e6, ())) (fun e7 =>
            (impl_size_impl_Entry.F k (e7.2.2.2.2.1, ())).bind fun y8 =>
            (impl_in.F k (e7.2.2.2.2.2.1, (0 : Int), y8.1)).bind fun y9 =>
            bif (!y9.1.1) then
            (some (((3 : Int), ()), ()))
            else (impl_in.F k (e7.2.2.2.2.2.2.1, (0 : Int), y8.1)).bind fun y10 =>
              bif (!y10.1.1) then
              (some (((3 : Int), ()), ()))
              else (impl_in.F k (e7.2.2.2.2.2.2.2.1, (0 : Int), y8.1)).bind fun y11 =>
                bif (!y11.1.1) then
                (some (((3 : Int), ()), ()))
                else (impl_in.F k (e7.2.2.2.2.2.2.2.2.1, (0 : Int), e7.2.2.2.2.2.1, ())).bind fun y12 =>
                  bif (!y12.1.1) then
                  (some (((3 : Int), ()), ()))
                  else bif (e7.2.2.1 == (1 : Int)) then
                    (bif (!e7.2.1) then
                      (some (((1 : Int), ()), ()))
                      else bif (e7.2.2.2.1 == (0 : Int)) then
                        (some (((1 : Int), ()), ()))
                        else bif (e7.2.2.2.2.2.2.1 != (0 : Int)) then
                          (some (((1 : Int), ()), ()))
                          else bif (!(e7.2.2.1 == (1 : Int))) then
                            (bif (e7.2.2.2.2.2.2.2.1 != (0 : Int)) then
                              (some (((1 : Int), ()), ()))
                              else bif (!e7.2.1) then
                                (bif (e7.2.2.2.2.2.1 != y8.1.1) then
                                  (some (((1 : Int), ()), ()))
                                  else bif (e7.2.2.2.2.2.2.1 != (0 : Int)) then
                                    (some (((1 : Int), ()), ()))
                                    else bif (e7.2.2.2.2.2.2.2.2.1 != (0 : Int)) then
                                      (some (((1 : Int), ()), ()))
                                      else some (((0 : Int), ()), ()))
                                else some (((0 : Int), ()), ()))
                            else bif (!e7.2.1) then
                              (bif (e7.2.2.2.2.2.1 != y8.1.1) then
                                (some (((1 : Int), ()), ()))
                                else bif (e7.2.2.2.2.2.2.1 != (0 : Int)) then
                                  (some (((1 : Int), ()), ()))
                                  else bif (e7.2.2.2.2.2.2.2.2.1 != (0 : Int)) then
                                    (some (((1 : Int), ()), ()))
                                    else some (((0 : Int), ()), ()))
                              else some (((0 : Int), ()), ()))
                    else bif (!(e7.2.2.1 == (1 : Int))) then
                      (bif (e7.2.2.2.2.2.2.2.1 != (0 : Int)) then
                        (some (((1 : Int), ()), ()))
                        else bif (!e7.2.1) then
                          (bif (e7.2.2.2.2.2.1 != y8.1.1) then
                            (some (((1 : Int), ()), ()))
                            else bif (e7.2.2.2.2.2.2.1 != (0 : Int)) then
                              (some (((1 : Int), ()), ()))
                              else bif (e7.2.2.2.2.2.2.2.2.1 != (0 : Int)) then
                                (some (((1 : Int), ()), ()))
                                else some (((0 : Int), ()), ()))
                          else some (((0 : Int), ()), ()))
                      else bif (!e7.2.1) then
                        (bif (e7.2.2.2.2.2.1 != y8.1.1) then
                          (some (((1 : Int), ()), ()))
                          else bif (e7.2.2.2.2.2.2.1 != (0 : Int)) then
                            (some (((1 : Int), ()), ()))
                            else bif (e7.2.2.2.2.2.2.2.2.1 != (0 : Int)) then
                              (some (((1 : Int), ()), ()))
                              else some (((0 : Int), ()), ()))
                        else some (((0 : Int), ()), ())) k x.1.2.2.2.2.1 (((List.length x.1.2.2.2.2.1) : Nat) : Int) (0 : Int) x.1.1 x.1.2.1 x.1.2.2.1 x.1.2.2.2.1 x.1.2.2.2.2.1 x.1.2.2.2.2.2.1 x.1.2.2.2.2.2.2.1 x.1.2.2.2.2.2.2.2.1 x.1.2.2.2.2.2.2.2.2.1
def impl_NodeFault.hd : Hints := ⟨[(6, ⟨[1, 31, 32, 33], []⟩)], [(0, [1]), (1, [1]), (2, [1, 31, 32, 33]), (3, [])], [2], [0, 1, 3, 4, 5, 6, 7, 31, 32, 33], [(11, [0, 1, 0, 4, 15, 31, 63, 127, 255, 511, 1023, 511, 2559, 511, 8703, 31231, 63999, 129535, 262143, 524287, 1048575])]⟩
def impl_NodeFault.lps (k : Nat) : List (Nat × Lp impl_NodeFault.sg.Out) := [(6, ⟨[.l kEntry, .i, .i, .i, .b, .i, .i, .l kEntry, .i, .i, .i, .i], fun x => (fun x0 x1 x2 x3 x4 x5 x6 x7 x8 x9 x10 x11 => ⟨[(1, .v false [.box 0 0]), (31, .v false [.fz kEntry x0]), (32, .v false [.int .i64 x1]), (33, .v false [.int .i64 x2])], [(0, .box [.int .i64 x3, .bool x4, .int .i64 x5, .int .i64 x6, .fz kEntry x7, .int .i64 x8, .int .i64 x9, .int .i64 x10, .int .i64 x11])], []⟩) x.1 x.2.1 x.2.2.1 x.2.2.2.1 x.2.2.2.2.1 x.2.2.2.2.2.1 x.2.2.2.2.2.2.1 x.2.2.2.2.2.2.2.1 x.2.2.2.2.2.2.2.2.1 x.2.2.2.2.2.2.2.2.2.1 x.2.2.2.2.2.2.2.2.2.2.1 x.2.2.2.2.2.2.2.2.2.2.2.1, fun C n x => impl_NodeFault.l6 k (fun y => C .ret ((fun y0 => ⟨[(2, .v false [.int .i64 y0])], [], []⟩) y.1)) (fun y => C (.exit 1) ((fun y0 y1 y2 y3 y4 y5 y6 y7 y8 => ⟨[(1, .v false [.box 0 0])], [(0, .box [.int .i64 y0, .bool y1, .int .i64 y2, .int .i64 y3, .fz kEntry y4, .int .i64 y5, .int .i64 y6, .int .i64 y7, .int .i64 y8])], []⟩) y.1 y.2.1 y.2.2.1 y.2.2.2.1 y.2.2.2.2.1 y.2.2.2.2.2.1 y.2.2.2.2.2.2.1 y.2.2.2.2.2.2.2.1 y.2.2.2.2.2.2.2.2.1)) n x.1 x.2.1 x.2.2.1 x.2.2.2.1 x.2.2.2.2.1 x.2.2.2.2.2.1 x.2.2.2.2.2.2.1 x.2.2.2.2.2.2.2.1 x.2.2.2.2.2.2.2.2.1 x.2.2.2.2.2.2.2.2.2.1 x.2.2.2.2.2.2.2.2.2.2.1 x.2.2.2.2.2.2.2.2.2.2.2.1⟩)]
theorem impl_NodeFault.loops (k : Nat) : LoopsOk impl_NodeFault.E k impl_NodeFault.hd (impl_NodeFault.lps k) (loopsOf (Go.Proofs.Try.f22.body.getD .skip)) := ⟨⟨fun _ _ => rfl, fun _ _ _ => by kernel_rfl, fun _ => ⟨rfl, rfl⟩⟩, trivial⟩
theorem impl_NodeFault.den (k : Nat) (x : Sig.In impl_NodeFault.sg.ps) : denFn impl_NodeFault.E k Go.Proofs.Try.f22 impl_NodeFault.sg impl_NodeFault.hd (runL k impl_NodeFault.hd (impl_NodeFault.lps k)) x = impl_NodeFault.F k x := by kernel_rfl
theorem impl_NodeFault.ok (k : Nat) : Contract Try.prog 22 impl_NodeFault.sg (impl_NodeFault.F k) := ok_of (E := impl_NodeFault.E) (tysOk _ _) (eqsOk _) ⟨impl_size_impl_Entry.ok k, impl_isNode.ok k, impl_in.ok k, impl_EntryFault.ok k, trivial⟩ Try.func22 rfl (by kernel_rfl) (impl_NodeFault.loops k) (impl_NodeFault.den k)
def impl_Entry_isZero.sg : Sig := ⟨[.b kEntry], [(.bool, .rd)]⟩
def impl_Entry_isZero.E : Env := ⟨tys, bys, [], eqs⟩
def impl_Entry_isZero.F (k : Nat) (x : ((Int × ((Int × (Int × ((List Int) × Unit))) × Unit)) × Unit)) : Option ((Bool × Unit) × Unit) :=
  bif (x.1.1 == (0 : Int)) then
  (bif (x.1.2.1.1 == (0 : Int)) then
    (bif (x.1.2.1.2.1 == (0 : Int)) then
      (some ((((((List.length x.1.2.1.2.2.1) : Nat) : Int) == (0 : Int)), ()), ()))
      else some ((false, ()), ()))
    else some ((false, ()), ()))
  else some ((false, ()), ())
def impl_Entry_isZero.hd : Hints := ⟨[], [], [2], [0, 1], []⟩
def impl_Entry_isZero.lps (k : Nat) : List (Nat × Lp impl_Entry_isZero.sg.Out) := []
theorem impl_Entry_isZero.loops (k : Nat) : LoopsOk impl_Entry_isZero.E k impl_Entry_isZero.hd (impl_Entry_isZero.lps k) (loopsOf (Go.Proofs.Try.f105.body.getD .skip)) := trivial
theorem impl_Entry_isZero.den (k : Nat) (x : Sig.In impl_Entry_isZero.sg.ps) : denFn impl_Entry_isZero.E k Go.Proofs.Try.f105 impl_Entry_isZero.sg impl_Entry_isZero.hd (runL k impl_Entry_isZero.hd (impl_Entry_isZero.lps k)) x = impl_Entry_isZero.F k x := by kernel_rfl
theorem impl_Entry_isZero.ok (k : Nat) : Contract Try.prog 105 impl_Entry_isZero.sg (impl_Entry_isZero.F k) := ok_of (E := impl_Entry_isZero.E) (tysOk _ _) (eqsOk _) trivial Try.func105 rfl (by kernel_rfl) (impl_Entry_isZero.loops k) (impl_Entry_isZero.den k)
def impl_MailFault.sg : Sig := ⟨[.b kNode, .b kMail], [((.int .i64), .rd)]⟩
def impl_MailFault.E : Env := ⟨tys, bys, [(22, ⟨impl_NodeFault.sg, impl_NodeFault.F⟩), (102, ⟨impl_in.sg, impl_in.F⟩), (103, ⟨impl_EntryFault.sg, impl_EntryFault.F⟩), (104, ⟨impl_isEpoch.sg, impl_isEpoch.F⟩), (105, ⟨impl_Entry_isZero.sg, impl_Entry_isZero.F⟩)], eqs⟩
def impl_MailFault.F (k : Nat) (x : ((Int × (Bool × (Int × (Int × ((List (Int × ((Int × (Int × ((List Int) × Unit))) × Unit))) × (Int × (Int × (Int × (Int × Unit))))))))) × ((Int × (Int × (Int × (Int × (Int × (Bool × ((Int × ((Int × (Int × ((List Int) × Unit))) × Unit)) × Unit))))))) × Unit))) : Option ((Int × Unit) × Unit) :=
  (impl_NodeFault.F k (x.1, ())).bind fun y0 =>
  bif (y0.1.1 != (0 : Int)) then
  (some y0)
  else bif (x.2.1.1 != (1 : Int)) then
    (bif (x.2.1.1 != (2 : Int)) then
      (some (((1 : Int), ()), ()))
      else bif (x.2.1.2.1 != x.1.1) then
        (some (((1 : Int), ()), ()))
        else (impl_isEpoch.F k (x.2.1.2.2.1, ())).bind fun y1 =>
          bif (!y1.1.1) then
          (some (((3 : Int), ()), ()))
          else (impl_in.F k (x.2.1.2.2.2.1, (0 : Int), (100 : Int), ())).bind fun y2 =>
            bif (!y2.1.1) then
            (some (((3 : Int), ()), ()))
            else (impl_in.F k (x.2.1.2.2.2.2.1, (0 : Int), (1000 : Int), ())).bind fun y3 =>
              bif (!y3.1.1) then
              (some (((3 : Int), ()), ()))
              else bif (x.2.1.1 == (2 : Int)) then
                (bif x.2.1.2.2.2.2.2.1 then
                  (some (((1 : Int), ()), ()))
                  else bif (x.2.1.2.2.2.2.1 != (0 : Int)) then
                    (some (((1 : Int), ()), ()))
                    else bif (x.2.1.1 == (1 : Int)) then
                      (bif (!((x.2.1.2.2.2.1 == (0 : Int)) == (x.2.1.2.2.2.2.1 == (0 : Int)))) then
                        (some (((1 : Int), ()), ()))
                        else bif (!x.2.1.2.2.2.2.2.1) then
                          ((impl_Entry_isZero.F k x.2.1.2.2.2.2.2.2).bind fun y4 =>
                            bif (!y4.1.1) then
                            (some (((1 : Int), ()), ()))
                            else bif (decide ((x.2.1.2.2.2.2.1 > x.2.1.2.2.1))) then
                              (some (((1 : Int), ()), ()))
                              else bif (!x.2.1.2.2.2.2.2.1) then
                                (some (((0 : Int), ()), ()))
                                else (impl_EntryFault.F k x.2.1.2.2.2.2.2.2).bind fun y5 =>
                                  bif (y5.1.1 != (0 : Int)) then
                                  (some y5)
                                  else bif (decide ((x.2.1.2.2.2.2.2.2.1.1 > x.2.1.2.2.1))) then
                                    (some (((1 : Int), ()), ()))
                                    else bif (decide ((x.2.1.2.2.2.2.2.2.1.1 < x.2.1.2.2.2.2.1))) then
                                      (some (((1 : Int), ()), ()))
                                      else some (((0 : Int), ()), ()))
                          else bif (decide ((x.2.1.2.2.2.2.1 > x.2.1.2.2.1))) then
                            (some (((1 : Int), ()), ()))
                            else bif (!x.2.1.2.2.2.2.2.1) then
                              (some (((0 : Int), ()), ()))
                              else (impl_EntryFault.F k x.2.1.2.2.2.2.2.2).bind fun y6 =>
                                bif (y6.1.1 != (0 : Int)) then
                                (some y6)
                                else bif (decide ((x.2.1.2.2.2.2.2.2.1.1 > x.2.1.2.2.1))) then
                                  (some (((1 : Int), ()), ()))
                                  else bif (decide ((x.2.1.2.2.2.2.2.2.1.1 < x.2.1.2.2.2.2.1))) then
                                    (some (((1 : Int), ()), ()))
                                    else some (((0 : Int), ()), ()))
                      else bif (!x.2.1.2.2.2.2.2.1) then
                        ((impl_Entry_isZero.F k x.2.1.2.2.2.2.2.2).bind fun y7 =>
                          bif (!y7.1.1) then
                          (some (((1 : Int), ()), ()))
                          else bif (decide ((x.2.1.2.2.2.2.1 > x.2.1.2.2.1))) then
                            (some (((1 : Int), ()), ()))
                            else bif (!x.2.1.2.2.2.2.2.1) then
                              (some (((0 : Int), ()), ()))
                              else (impl_EntryFault.F k x.2.1.2.2.2.2.2.2).bind fun y8 =>
                                bif (y8.1.1 != (0 : Int)) then
                                (some y8)
                                else bif (decide ((x.2.1.2.2.2.2.2.2.1.1 > x.2.1.2.2.1))) then
                                  (some (((1 : Int), ()), ()))
                                  else bif (decide ((x.2.1.2.2.2.2.2.2.1.1 < x.2.1.2.2.2.2.1))) then
                                    (some (((1 : Int), ()), ()))
                                    else some (((0 : Int), ()), ()))
                        else bif (decide ((x.2.1.2.2.2.2.1 > x.2.1.2.2.1))) then
                          (some (((1 : Int), ()), ()))
                          else bif (!x.2.1.2.2.2.2.2.1) then
                            (some (((0 : Int), ()), ()))
                            else (impl_EntryFault.F k x.2.1.2.2.2.2.2.2).bind fun y9 =>
                              bif (y9.1.1 != (0 : Int)) then
                              (some y9)
                              else bif (decide ((x.2.1.2.2.2.2.2.2.1.1 > x.2.1.2.2.1))) then
                                (some (((1 : Int), ()), ()))
                                else bif (decide ((x.2.1.2.2.2.2.2.2.1.1 < x.2.1.2.2.2.2.1))) then
                                  (some (((1 : Int), ()), ()))
                                  else some (((0 : Int), ()), ()))
                else bif (x.2.1.1 == (1 : Int)) then
                  (bif (!((x.2.1.2.2.2.1 == (0 : Int)) == (x.2.1.2.2.2.2.1 == (0 : Int)))) then
                    (some (((1 : Int), ()), ()))
                    else bif (!x.2.1.2.2.2.2.2.1) then
                      ((impl_Entry_isZero.F k x.2.1.2.2.2.2.2.2).bind fun y10 =>
                        bif (!y10.1.1) then
                        (some (((1 : Int), ()), ()))
                        else bif (decide ((x.2.1.2.2.2.2.1 > x.2.1.2.2.1))) then
                          (some (((1 : Int), ()), ()))
                          else bif (!x.2.1.2.2.2.2.2.1) then
                            (some (((0 : Int), ()), ()))
                            else (impl_EntryFault.F k x.2.1.2.2.2.2.2.2).bind fun y11 =>
                              bif (y11.1.1 != (0 : Int)) then
                              (some y11)
                              else bif (decide ((x.2.1.2.2.2.2.2.2.1.1 > x.2.1.2.2.1))) then
                                (some (((1 : Int), ()), ()))
                                else bif (decide ((x.2.1.2.2.2.2.2.2.1.1 < x.2.1.2.2.2.2.1))) then
                                  (some (((1 : Int), ()), ()))
                                  else some (((0 : Int), ()), ()))
                      else bif (decide ((x.2.1.2.2.2.2.1 > x.2.1.2.2.1))) then
                        (some (((1 : Int), ()), ()))
                        else bif (!x.2.1.2.2.2.2.2.1) then
                          (some (((0 : Int), ()), ()))
                          else (impl_EntryFault.F k x.2.1.2.2.2.2.2.2).bind fun y12 =>
                            bif (y12.1.1 != (0 : Int)) then
                            (some y12)
                            else bif (decide ((x.2.1.2.2.2.2.2.2.1.1 > x.2.1.2.2.1))) then
                              (some (((1 : Int), ()), ()))
                              else bif (decide ((x.2.1.2.2.2.2.2.2.1.1 < x.2.1.2.2.2.2.1))) then
                                (some (((1 : Int), ()), ()))
                                else some (((0 : Int), ()), ()))
                  else bif (!x.2.1.2.2.2.2.2.1) then
                    ((impl_Entry_isZero.F k x.2.1.2.2.2.2.2.2).bind fun y13 =>
                      bif (!y13.1.1) then
                      (some (((1 : Int), ()), ()))
                      else bif (decide ((x.2.1.2.2.2.2.1 > x.2.1.2.2.1))) then
                        (some (((1 : Int), ()), ()))
                        else bif (!x.2.1.2.2.2.2.2.1) then
                          (some (((0 : Int), ()), ()))
                          else (impl_EntryFault.F k x.2.1.2.2.2.2.2.2).bind fun y14 =>
                            bif (y14.1.1 != (0 : Int)) then
                            (some y14)
                            else bif (decide ((x.2.1.2.2.2.2.2.2.1.1 > x.2.1.2.2.1))) then
                              (some (((1 : Int), ()), ()))
                              else bif (decide ((x.2.1.2.2.2.2.2.2.1.1 < x.2.1.2.2.2.2.1))) then
                                (some (((1 : Int), ()), ()))
                                else some (((0 : Int), ()), ()))
                    else bif (decide ((x.2.1.2.2.2.2.1 > x.2.1.2.2.1))) then
                      (some (((1 : Int), ()), ()))
                      else bif (!x.2.1.2.2.2.2.2.1) then
                        (some (((0 : Int), ()), ()))
                        else (impl_EntryFault.F k x.2.1.2.2.2.2.2.2).bind fun y15 =>
                          bif (y15.1.1 != (0 : Int)) then
                          (some y15)
                          else bif (decide ((x.2.1.2.2.2.2.2.2.1.1 > x.2.1.2.2.1))) then
                            (some (((1 : Int), ()), ()))
                            else bif (decide ((x.2.1.2.2.2.2.2.2.1.1 < x.2.1.2.2.2.2.1))) then
                              (some (((1 : Int), ()), ()))
                              else some (((0 : Int), ()), ()))
    else bif (x.2.1.2.1 != x.1.1) then
      (some (((1 : Int), ()), ()))
      else (impl_isEpoch.F k (x.2.1.2.2.1, ())).bind fun y16 =>
        bif (!y16.1.1) then
        (some (((3 : Int), ()), ()))
        else (impl_in.F k (x.2.1.2.2.2.1, (0 : Int), (100 : Int), ())).bind fun y17 =>
          bif (!y17.1.1) then
          (some (((3 : Int), ()), ()))
          else (impl_in.F k (x.2.1.2.2.2.2.1, (0 : Int), (1000 : Int), ())).bind fun y18 =>
            bif (!y18.1.1) then
            (some (((3 : Int), ()), ()))
            else bif (x.2.1.1 == (2 : Int)) then
              (bif x.2.1.2.2.2.2.2.1 then
                (some (((1 : Int), ()), ()))
                else bif (x.2.1.2.2.2.2.1 != (0 : Int)) then
                  (some (((1 : Int), ()), ()))
                  else bif (x.2.1.1 == (1 : Int)) then
                    (bif (!((x.2.1.2.2.2.1 == (0 : Int)) == (x.2.1.2.2.2.2.1 == (0 : Int)))) then
                      (some (((1 : Int), ()), ()))
                      else bif (!x.2.1.2.2.2.2.2.1) then
                        ((impl_Entry_isZero.F k x.2.1.2.2.2.2.2.2).bind fun y19 =>
                          bif (!y19.1.1) then
                          (some (((1 : Int), ()), ()))
                          else bif (decide ((x.2.1.2.2.2.2.1 > x.2.1.2.2.1))) then
                            (some (((1 : Int), ()), ()))
                            else bif (!x.2.1.2.2.2.2.2.1) then
                              (some (((0 : Int), ()), ()))
                              else (impl_EntryFault.F k x.2.1.2.2.2.2.2.2).bind fun y20 =>
                                bif (y20.1.1 != (0 : Int)) then
                                (some y20)
                                else bif (decide ((x.2.1.2.2.2.2.2.2.1.1 > x.2.1.2.2.1))) then
                                  (some (((1 : Int), ()), ()))
                                  else bif (decide ((x.2.1.2.2.2.2.2.2.1.1 < x.2.1.2.2.2.2.1))) then
                                    (some (((1 : Int), ()), ()))
                                    else some (((0 : Int), ()), ()))
                        else bif (decide ((x.2.1.2.2.2.2.1 > x.2.1.2.2.1))) then
                          (some (((1 : Int), ()), ()))
                          else bif (!x.2.1.2.2.2.2.2.1) then
                            (some (((0 : Int), ()), ()))
                            else (impl_EntryFault.F k x.2.1.2.2.2.2.2.2).bind fun y21 =>
                              bif (y21.1.1 != (0 : Int)) then
                              (some y21)
                              else bif (decide ((x.2.1.2.2.2.2.2.2.1.1 > x.2.1.2.2.1))) then
                                (some (((1 : Int), ()), ()))
                                else bif (decide ((x.2.1.2.2.2.2.2.2.1.1 < x.2.1.2.2.2.2.1))) then
                                  (some (((1 : Int), ()), ()))
                                  else some (((0 : Int), ()), ()))
                    else bif (!x.2.1.2.2.2.2.2.1) then
                      ((impl_Entry_isZero.F k x.2.1.2.2.2.2.2.2).bind fun y22 =>
                        bif (!y22.1.1) then
                        (some (((1 : Int), ()), ()))
                        else bif (decide ((x.2.1.2.2.2.2.1 > x.2.1.2.2.1))) then
                          (some (((1 : Int), ()), ()))
                          else bif (!x.2.1.2.2.2.2.2.1) then
                            (some (((0 : Int), ()), ()))
                            else (impl_EntryFault.F k x.2.1.2.2.2.2.2.2).bind fun y23 =>
                              bif (y23.1.1 != (0 : Int)) then
                              (some y23)
                              else bif (decide ((x.2.1.2.2.2.2.2.2.1.1 > x.2.1.2.2.1))) then
                                (some (((1 : Int), ()), ()))
                                else bif (decide ((x.2.1.2.2.2.2.2.2.1.1 < x.2.1.2.2.2.2.1))) then
                                  (some (((1 : Int), ()), ()))
                                  else some (((0 : Int), ()), ()))
                      else bif (decide ((x.2.1.2.2.2.2.1 > x.2.1.2.2.1))) then
                        (some (((1 : Int), ()), ()))
                        else bif (!x.2.1.2.2.2.2.2.1) then
                          (some (((0 : Int), ()), ()))
                          else (impl_EntryFault.F k x.2.1.2.2.2.2.2.2).bind fun y24 =>
                            bif (y24.1.1 != (0 : Int)) then
                            (some y24)
                            else bif (decide ((x.2.1.2.2.2.2.2.2.1.1 > x.2.1.2.2.1))) then
                              (some (((1 : Int), ()), ()))
                              else bif (decide ((x.2.1.2.2.2.2.2.2.1.1 < x.2.1.2.2.2.2.1))) then
                                (some (((1 : Int), ()), ()))
                                else some (((0 : Int), ()), ()))
              else bif (x.2.1.1 == (1 : Int)) then
                (bif (!((x.2.1.2.2.2.1 == (0 : Int)) == (x.2.1.2.2.2.2.1 == (0 : Int)))) then
                  (some (((1 : Int), ()), ()))
                  else bif (!x.2.1.2.2.2.2.2.1) then
                    ((impl_Entry_isZero.F k x.2.1.2.2.2.2.2.2).bind fun y25 =>
                      bif (!y25.1.1) then
                      (some (((1 : Int), ()), ()))
                      else bif (decide ((x.2.1.2.2.2.2.1 > x.2.1.2.2.1))) then
                        (some (((1 : Int), ()), ()))
                        else bif (!x.2.1.2.2.2.2.2.1) then
                          (some (((0 : Int), ()), ()))
                          else (impl_EntryFault.F k x.2.1.2.2.2.2.2.2).bind fun y26 =>
                            bif (y26.1.1 != (0 : Int)) then
                            (some y26)
                            else bif (decide ((x.2.1.2.2.2.2.2.2.1.1 > x.2.1.2.2.1))) then
                              (some (((1 : Int), ()), ()))
                              else bif (decide ((x.2.1.2.2.2.2.2.2.1.1 < x.2.1.2.2.2.2.1))) then
                                (some (((1 : Int), ()), ()))
                                else some (((0 : Int), ()), ()))
                    else bif (decide ((x.2.1.2.2.2.2.1 > x.2.1.2.2.1))) then
                      (some (((1 : Int), ()), ()))
                      else bif (!x.2.1.2.2.2.2.2.1) then
                        (some (((0 : Int), ()), ()))
                        else (impl_EntryFault.F k x.2.1.2.2.2.2.2.2).bind fun y27 =>
                          bif (y27.1.1 != (0 : Int)) then
                          (some y27)
                          else bif (decide ((x.2.1.2.2.2.2.2.2.1.1 > x.2.1.2.2.1))) then
                            (some (((1 : Int), ()), ()))
                            else bif (decide ((x.2.1.2.2.2.2.2.2.1.1 < x.2.1.2.2.2.2.1))) then
                              (some (((1 : Int), ()), ()))
                              else some (((0 : Int), ()), ()))
                else bif (!x.2.1.2.2.2.2.2.1) then
                  ((impl_Entry_isZero.F k x.2.1.2.2.2.2.2.2).bind fun y28 =>
                    bif (!y28.1.1) then
                    (some (((1 : Int), ()), ()))
                    else bif (decide ((x.2.1.2.2.2.2.1 > x.2.1.2.2.1))) then
                      (some (((1 : Int), ()), ()))
                      else bif (!x.2.1.2.2.2.2.2.1) then
                        (some (((0 : Int), ()), ()))
                        else (impl_EntryFault.F k x.2.1.2.2.2.2.2.2).bind fun y29 =>
                          bif (y29.1.1 != (0 : Int)) then
                          (some y29)
                          else bif (decide ((x.2.1.2.2.2.2.2.2.1.1 > x.2.1.2.2.1))) then
                            (some (((1 : Int), ()), ()))
                            else bif (decide ((x.2.1.2.2.2.2.2.2.1.1 < x.2.1.2.2.2.2.1))) then
                              (some (((1 : Int), ()), ()))
                              else some (((0 : Int), ()), ()))
                  else bif (decide ((x.2.1.2.2.2.2.1 > x.2.1.2.2.1))) then
                    (some (((1 : Int), ()), ()))
                    else bif (!x.2.1.2.2.2.2.2.1) then
                      (some (((0 : Int), ()), ()))
                      else (impl_EntryFault.F k x.2.1.2.2.2.2.2.2).bind fun y30 =>
                        bif (y30.1.1 != (0 : Int)) then
                        (some y30)
                        else bif (decide ((x.2.1.2.2.2.2.2.2.1.1 > x.2.1.2.2.1))) then
                          (some (((1 : Int), ()), ()))
                          else bif (decide ((x.2.1.2.2.2.2.2.2.1.1 < x.2.1.2.2.2.2.1))) then
                            (some (((1 : Int), ()), ()))
                            else some (((0 : Int), ()), ())
def impl_MailFault.hd : Hints := ⟨[], [(0, [3])], [4], [0, 1, 2, 3, 5, 6], []⟩
def impl_MailFault.lps (k : Nat) : List (Nat × Lp impl_MailFault.sg.Out) := []
theorem impl_MailFault.loops (k : Nat) : LoopsOk impl_MailFault.E k impl_MailFault.hd (impl_MailFault.lps k) (loopsOf (Go.Proofs.Try.f23.body.getD .skip)) := trivial
theorem impl_MailFault.den (k : Nat) (x : Sig.In impl_MailFault.sg.ps) : denFn impl_MailFault.E k Go.Proofs.Try.f23 impl_MailFault.sg impl_MailFault.hd (runL k impl_MailFault.hd (impl_MailFault.lps k)) x = impl_MailFault.F k x := by kernel_rfl
theorem impl_MailFault.ok (k : Nat) : Contract Try.prog 23 impl_MailFault.sg (impl_MailFault.F k) := ok_of (E := impl_MailFault.E) (tysOk _ _) (eqsOk _) ⟨impl_NodeFault.ok k, impl_in.ok k, impl_EntryFault.ok k, impl_isEpoch.ok k, impl_Entry_isZero.ok k, trivial⟩ Try.func23 rfl (by kernel_rfl) (impl_MailFault.loops k) (impl_MailFault.den k)
def impl_upFault.sg : Sig := ⟨[.b kNode], [((.int .i64), .rd)]⟩
def impl_upFault.E : Env := ⟨tys, bys, [(22, ⟨impl_NodeFault.sg, impl_NodeFault.F⟩)], eqs⟩
def impl_upFault.F (k : Nat) (x : ((Int × (Bool × (Int × (Int × ((List (Int × ((Int × (Int × ((List Int) × Unit))) × Unit))) × (Int × (Int × (Int × (Int × Unit))))))))) × Unit)) : Option ((Int × Unit) × Unit) :=
  (impl_NodeFault.F k x).bind fun y0 =>
  bif (y0.1.1 == (0 : Int)) then
  (bif (!x.1.2.1) then
    (some (((10 : Int), ()), ()))
    else some y0)
  else some y0
def impl_upFault.hd : Hints := ⟨[], [], [2], [0, 1, 3], []⟩
def impl_upFault.lps (k : Nat) : List (Nat × Lp impl_upFault.sg.Out) := []
theorem impl_upFault.loops (k : Nat) : LoopsOk impl_upFault.E k impl_upFault.hd (impl_upFault.lps k) (loopsOf (Go.Proofs.Try.f92.body.getD .skip)) := trivial
theorem impl_upFault.den (k : Nat) (x : Sig.In impl_upFault.sg.ps) : denFn impl_upFault.E k Go.Proofs.Try.f92 impl_upFault.sg impl_upFault.hd (runL k impl_upFault.hd (impl_upFault.lps k)) x = impl_upFault.F k x := by kernel_rfl
theorem impl_upFault.ok (k : Nat) : Contract Try.prog 92 impl_upFault.sg (impl_upFault.F k) := ok_of (E := impl_upFault.E) (tysOk _ _) (eqsOk _) ⟨impl_NodeFault.ok k, trivial⟩ Try.func92 rfl (by kernel_rfl) (impl_upFault.loops k) (impl_upFault.den k)
def slices_Clone_impl_Entry_impl_Entry.sg : Sig := ⟨[.b (.sl kEntry)], [((.sl kEntry), .fl)]⟩
def slices_Clone_impl_Entry_impl_Entry.E : Env := ⟨tys, bys, [], eqs⟩
def slices_Clone_impl_Entry_impl_Entry.F (k : Nat) (x : ((List (Int × ((Int × (Int × ((List Int) × Unit))) × Unit))) × Unit)) : Option (((List (Int × ((Int × (Int × ((List Int) × Unit))) × Unit))) × Unit) × Unit) :=
  bif (Nat.beq (List.length x.1) 0) then
  (Go.Dn.agree
    (some ((([] : List (Int × ((Int × (Int × ((List Int) × Unit))) × Unit))), ()), ()))
    (bif (Go.Dn.roomy ((List.length ([] : List (Int × ((Int × (Int × ((List Int) × Unit))) × Unit)))) + (List.length x.1)) 48) then
      (Go.Dn.share (([] : List (Int × ((Int × (Int × ((List Int) × Unit))) × Unit))) ++ x.1) fun s0 =>
        some ((s0, ()), ()))
      else none))
  else bif (Go.Dn.roomy ((List.length ([] : List (Int × ((Int × (Int × ((List Int) × Unit))) × Unit)))) + (List.length x.1)) 48) then
    (Go.Dn.share (([] : List (Int × ((Int × (Int × ((List Int) × Unit))) × Unit))) ++ x.1) fun s1 =>
      some ((s1, ()), ()))
    else none
def slices_Clone_impl_Entry_impl_Entry.hd : Hints := ⟨[], [], [2], [0], []⟩
def slices_Clone_impl_Entry_impl_Entry.lps (k : Nat) : List (Nat × Lp slices_Clone_impl_Entry_impl_Entry.sg.Out) := []
theorem slices_Clone_impl_Entry_impl_Entry.loops (k : Nat) : LoopsOk slices_Clone_impl_Entry_impl_Entry.E k slices_Clone_impl_Entry_impl_Entry.hd (slices_Clone_impl_Entry_impl_Entry.lps k) (loopsOf (Go.Proofs.Try.f283.body.getD .skip)) := trivial
theorem slices_Clone_impl_Entry_impl_Entry.den (k : Nat) (x : Sig.In slices_Clone_impl_Entry_impl_Entry.sg.ps) : denFn slices_Clone_impl_Entry_impl_Entry.E k Go.Proofs.Try.f283 slices_Clone_impl_Entry_impl_Entry.sg slices_Clone_impl_Entry_impl_Entry.hd (runL k slices_Clone_impl_Entry_impl_Entry.hd (slices_Clone_impl_Entry_impl_Entry.lps k)) x = slices_Clone_impl_Entry_impl_Entry.F k x := by kernel_rfl
theorem slices_Clone_impl_Entry_impl_Entry.ok (k : Nat) : Contract Try.prog 283 slices_Clone_impl_Entry_impl_Entry.sg (slices_Clone_impl_Entry_impl_Entry.F k) := ok_of (E := slices_Clone_impl_Entry_impl_Entry.E) (tysOk _ _) (eqsOk _) trivial Try.func283 rfl (by kernel_rfl) (slices_Clone_impl_Entry_impl_Entry.loops k) (slices_Clone_impl_Entry_impl_Entry.den k)
def slices_Clone_byte_byte.sg : Sig := ⟨[.b (.sl (.int .u8))], [((.sl (.int .u8)), .dp)]⟩
def slices_Clone_byte_byte.E : Env := ⟨tys, bys, [], eqs⟩
def slices_Clone_byte_byte.F (k : Nat) (x : ((List Int) × Unit)) : Option (((List Int) × Unit) × Unit) :=
  bif (Nat.beq (List.length x.1) 0) then
  (Go.Dn.agree
    (some ((([] : List Int), ()), ()))
    (bif (Go.Dn.roomy ((List.length ([] : List Int)) + (List.length x.1)) 1) then
      (Go.Dn.share (([] : List Int) ++ x.1) fun s0 =>
        some ((s0, ()), ()))
      else none))
  else bif (Go.Dn.roomy ((List.length ([] : List Int)) + (List.length x.1)) 1) then
    (Go.Dn.share (([] : List Int) ++ x.1) fun s1 =>
      some ((s1, ()), ()))
    else none
def slices_Clone_byte_byte.hd : Hints := ⟨[], [], [2], [0], []⟩
def slices_Clone_byte_byte.lps (k : Nat) : List (Nat × Lp slices_Clone_byte_byte.sg.Out) := []
theorem slices_Clone_byte_byte.loops (k : Nat) : LoopsOk slices_Clone_byte_byte.E k slices_Clone_byte_byte.hd (slices_Clone_byte_byte.lps k) (loopsOf (Go.Proofs.Try.f284.body.getD .skip)) := trivial
theorem slices_Clone_byte_byte.den (k : Nat) (x : Sig.In slices_Clone_byte_byte.sg.ps) : denFn slices_Clone_byte_byte.E k Go.Proofs.Try.f284 slices_Clone_byte_byte.sg slices_Clone_byte_byte.hd (runL k slices_Clone_byte_byte.hd (slices_Clone_byte_byte.lps k)) x = slices_Clone_byte_byte.F k x := by kernel_rfl
theorem slices_Clone_byte_byte.ok (k : Nat) : Contract Try.prog 284 slices_Clone_byte_byte.sg (slices_Clone_byte_byte.F k) := ok_of (E := slices_Clone_byte_byte.E) (tysOk _ _) (eqsOk _) trivial Try.func284 rfl (by kernel_rfl) (slices_Clone_byte_byte.loops k) (slices_Clone_byte_byte.den k)
def impl_copiedEntries.sg : Sig := ⟨[.b (.sl kEntry)], [((.sl kEntry), .dp)]⟩
def impl_copiedEntries.E : Env := ⟨tys, bys, [(283, ⟨slices_Clone_impl_Entry_impl_Entry.sg, slices_Clone_impl_Entry_impl_Entry.F⟩), (284, ⟨slices_Clone_byte_byte.sg, slices_Clone_byte_byte.F⟩)], eqs⟩
def impl_copiedEntries.l3 {ρ : Type} (k : Nat) (c0 : (List (Int × ((Int × (Int × ((List Int) × Unit))) × Unit)) × (Int × Unit)) → Option ρ) : Nat → Int → Int → List (Int × ((Int × (Int × ((List Int) × Unit))) × Unit)) → Int → Option ρ
  | 0 => fun _ _ _ _ => none
  | n + 1 => fun x0 x1 x2 x3 => 
    bif (decide ((x1 < x0))) then
    (bif (Go.Dn.inB x1 (((List.length x2) : Nat) : Int)) then
      (bif (decide ((x3 ≤ x1))) then
        ((slices_Clone_byte_byte.F k (List.getD x2 (Int.toNat x1) ((0 : Int), (((0 : Int), ((0 : Int), (([] : List Int), ()))), ()))).2.1.2.2).bind fun y1 =>
          bif (Go.Dn.inB x1 (((List.length x2) : Nat) : Int)) then
          (bif (x1 == x3) then
            (Go.Dn.share (List.set x2 (Int.toNat x1) ((List.getD x2 (Int.toNat x1) ((0 : Int), (((0 : Int), ((0 : Int), (([] : List Int), ()))), ()))).1, ((List.getD x2 (Int.toNat x1) ((0 : Int), (((0 : Int), ((0 : Int), (([] : List Int), ()))), ()))).2.1.1, (List.getD x2 (Int.toNat x1) ((0 : Int), (((0 : Int), ((0 : Int), (([] : List Int), ()))), ()))).2.1.2.1, y1.1.1, (List.getD x2 (Int.toNat x1) ((0 : Int), (((0 : Int), ((0 : Int), (([] : List Int), ()))), ()))).2.1.2.2.2), (List.getD x2 (Int.toNat x1) ((0 : Int), (((0 : Int), ((0 : Int), (([] : List Int), ()))), ()))).2.2)) fun s2 =>
              impl_copiedEntries.l3 k c0 n x0 (IntKind.wrap .i64 (x1 + (1 : Int))) s2 (x3 + (1 : Int)))
            else none)
          else none)
        else none)
      else none)
    else c0 (x2, x3, ())
def impl_copiedEntries.F (k : Nat) (x : ((List (Int × ((Int × (Int × ((List Int) × Unit))) × Unit))) × Unit)) : Option (((List (Int × ((Int × (Int × ((List Int) × Unit))) × Unit))) × Unit) × Unit) :=
  (slices_Clone_impl_Entry_impl_Entry.F k x).bind fun y0 =>
  impl_copiedEntries.l3 k (fun e3 =>
    bif (e3.2.1 == (((List.length e3.1) : Nat) : Int)) then
    (some ((e3.1, ()), ()))
    else none) k (((List.length y0.1.1) : Nat) : Int) (0 : Int) y0.1.1 (0 : Int)
def impl_copiedEntries.hd : Hints := ⟨[(3, ⟨[3, 8, 9, 10], [⟨3, none, .part⟩, ⟨8, none, .part⟩]⟩)], [(0, [3]), (1, [3, 8, 9, 10])], [2], [0, 3, 4, 5, 8, 9, 10], []⟩
def impl_copiedEntries.lps (k : Nat) : List (Nat × Lp impl_copiedEntries.sg.Out) := [(3, ⟨[.i, .i, .l kEntry, .i], fun x => (fun x0 x1 x2 x3 => ⟨[(3, .v false [.arr 0]), (8, .v false [.arr 0]), (9, .v false [.int .i64 x0]), (10, .v false [.int .i64 x1])], [(0, .par kEntry x2 x3)], []⟩) x.1 x.2.1 x.2.2.1 x.2.2.2.1, fun C n x => impl_copiedEntries.l3 k (fun y => C (.exit 0) ((fun y0 y1 => ⟨[(3, .v false [.arr 0])], [(0, .par kEntry y0 y1)], []⟩) y.1 y.2.1)) n x.1 x.2.1 x.2.2.1 x.2.2.2.1⟩)]
theorem impl_copiedEntries.loops (k : Nat) : LoopsOk impl_copiedEntries.E k impl_copiedEntries.hd (impl_copiedEntries.lps k) (loopsOf (Go.Proofs.Try.f208.body.getD .skip)) := ⟨⟨fun _ _ => rfl, fun _ _ _ => by kernel_rfl, fun _ => ⟨rfl, rfl⟩⟩, trivial⟩
theorem impl_copiedEntries.den (k : Nat) (x : Sig.In impl_copiedEntries.sg.ps) : denFn impl_copiedEntries.E k Go.Proofs.Try.f208 impl_copiedEntries.sg impl_copiedEntries.hd (runL k impl_copiedEntries.hd (impl_copiedEntries.lps k)) x = impl_copiedEntries.F k x := by kernel_rfl
theorem impl_copiedEntries.ok (k : Nat) : Contract Try.prog 208 impl_copiedEntries.sg (impl_copiedEntries.F k) := ok_of (E := impl_copiedEntries.E) (tysOk _ _) (eqsOk _) ⟨slices_Clone_impl_Entry_impl_Entry.ok k, slices_Clone_byte_byte.ok k, trivial⟩ Try.func208 rfl (by kernel_rfl) (impl_copiedEntries.loops k) (impl_copiedEntries.den k)
def impl_Node_copied.sg : Sig := ⟨[.b kNode], [(kNode, .dp)]⟩
def impl_Node_copied.E : Env := ⟨tys, bys, [(208, ⟨impl_copiedEntries.sg, impl_copiedEntries.F⟩)], eqs⟩
def impl_Node_copied.F (k : Nat) (x : ((Int × (Bool × (Int × (Int × ((List (Int × ((Int × (Int × ((List Int) × Unit))) × Unit))) × (Int × (Int × (Int × (Int × Unit))))))))) × Unit)) : Option (((Int × (Bool × (Int × (Int × ((List (Int × ((Int × (Int × ((List Int) × Unit))) × Unit))) × (Int × (Int × (Int × (Int × Unit))))))))) × Unit) × Unit) :=
  (impl_copiedEntries.F k (x.1.2.2.2.2.1, ())).bind fun y0 =>
  some (((x.1.1, x.1.2.1, x.1.2.2.1, x.1.2.2.2.1, y0.1.1, x.1.2.2.2.2.2), ()), ())
def impl_Node_copied.hd : Hints := ⟨[], [], [2], [0, 1, 2], []⟩
def impl_Node_copied.lps (k : Nat) : List (Nat × Lp impl_Node_copied.sg.Out) := []
theorem impl_Node_copied.loops (k : Nat) : LoopsOk impl_Node_copied.E k impl_Node_copied.hd (impl_Node_copied.lps k) (loopsOf (Go.Proofs.Try.f93.body.getD .skip)) := trivial
theorem impl_Node_copied.den (k : Nat) (x : Sig.In impl_Node_copied.sg.ps) : denFn impl_Node_copied.E k Go.Proofs.Try.f93 impl_Node_copied.sg impl_Node_copied.hd (runL k impl_Node_copied.hd (impl_Node_copied.lps k)) x = impl_Node_copied.F k x := by kernel_rfl
theorem impl_Node_copied.ok (k : Nat) : Contract Try.prog 93 impl_Node_copied.sg (impl_Node_copied.F k) := ok_of (E := impl_Node_copied.E) (tysOk _ _) (eqsOk _) ⟨impl_copiedEntries.ok k, trivial⟩ Try.func93 rfl (by kernel_rfl) (impl_Node_copied.loops k) (impl_Node_copied.den k)
def impl_Node_agree.sg : Sig := ⟨[.p kNode .dp .dp], []⟩
def impl_Node_agree.E : Env := ⟨tys, bys, [], eqs⟩
def impl_Node_agree.F (k : Nat) (x : ((Int × (Bool × (Int × (Int × ((List (Int × ((Int × (Int × ((List Int) × Unit))) × Unit))) × (Int × (Int × (Int × (Int × Unit))))))))) × Unit)) : Option (Unit × ((Int × (Bool × (Int × (Int × ((List (Int × ((Int × (Int × ((List Int) × Unit))) × Unit))) × (Int × (Int × (Int × (Int × Unit))))))))) × Unit)) :=
  some ((), (x.1.1, x.1.2.1, x.1.2.2.1, x.1.2.2.2.1, x.1.2.2.2.2.1, x.1.2.2.2.2.2.1, x.1.2.2.2.2.2.2.1, x.1.2.2.2.2.2.2.2.1, (bif (decide ((x.1.2.2.2.2.2.2.2.2.1 < (bif (decide ((x.1.2.2.2.2.2.1 < x.1.2.2.2.2.2.2.2.1))) then x.1.2.2.2.2.2.1 else x.1.2.2.2.2.2.2.2.1)))) then (bif (decide ((x.1.2.2.2.2.2.1 < x.1.2.2.2.2.2.2.2.1))) then x.1.2.2.2.2.2.1 else x.1.2.2.2.2.2.2.2.1) else x.1.2.2.2.2.2.2.2.2.1), ()), ())
def impl_Node_agree.hd : Hints := ⟨[], [], [], [0], [(0, [0, 0, 2, 6, 14, 0, 32, 96, 224, 0, 512, 1536, 3584, 8160, 16382, 32767, 65535, 131071])]⟩
def impl_Node_agree.lps (k : Nat) : List (Nat × Lp impl_Node_agree.sg.Out) := []
theorem impl_Node_agree.loops (k : Nat) : LoopsOk impl_Node_agree.E k impl_Node_agree.hd (impl_Node_agree.lps k) (loopsOf (Go.Proofs.Try.f95.body.getD .skip)) := trivial
theorem impl_Node_agree.den (k : Nat) (x : Sig.In impl_Node_agree.sg.ps) : denFn impl_Node_agree.E k Go.Proofs.Try.f95 impl_Node_agree.sg impl_Node_agree.hd (runL k impl_Node_agree.hd (impl_Node_agree.lps k)) x = impl_Node_agree.F k x := by kernel_rfl
theorem impl_Node_agree.ok (k : Nat) : Contract Try.prog 95 impl_Node_agree.sg (impl_Node_agree.F k) := ok_of (E := impl_Node_agree.E) (tysOk _ _) (eqsOk _) trivial Try.func95 rfl (by kernel_rfl) (impl_Node_agree.loops k) (impl_Node_agree.den k)
def impl_Node_taken.sg : Sig := ⟨[.r kNode, .b (.int .i64)], [((.sl kMail), .dp)]⟩
def impl_Node_taken.E : Env := ⟨tys, bys, [], eqs⟩
def impl_Node_taken.F (k : Nat) (x : ((Int × (Bool × (Int × (Int × ((List (Int × ((Int × (Int × ((List Int) × Unit))) × Unit))) × (Int × (Int × (Int × (Int × Unit))))))))) × (Int × Unit))) : Option (((List (Int × (Int × (Int × (Int × (Int × (Bool × ((Int × ((Int × (Int × ((List Int) × Unit))) × Unit)) × Unit)))))))) × Unit) × Unit) :=
  some (([((2 : Int), (IntKind.wrap .i64 ((1 : Int) - x.1.1)), x.1.2.2.2.1, x.2.1, (0 : Int), false, ((0 : Int), ((0 : Int), (0 : Int), ([] : List Int), ()), ()), ())], ()), ())
def impl_Node_taken.hd : Hints := ⟨[], [], [4], [0, 1], [(1, [0, 1, 3, 7, 15, 0, 32, 96, 224, 0, 1023, 2047, 4095])]⟩
def impl_Node_taken.lps (k : Nat) : List (Nat × Lp impl_Node_taken.sg.Out) := []
theorem impl_Node_taken.loops (k : Nat) : LoopsOk impl_Node_taken.E k impl_Node_taken.hd (impl_Node_taken.lps k) (loopsOf (Go.Proofs.Try.f106.body.getD .skip)) := trivial
theorem impl_Node_taken.den (k : Nat) (x : Sig.In impl_Node_taken.sg.ps) : denFn impl_Node_taken.E k Go.Proofs.Try.f106 impl_Node_taken.sg impl_Node_taken.hd (runL k impl_Node_taken.hd (impl_Node_taken.lps k)) x = impl_Node_taken.F k x := by kernel_rfl
theorem impl_Node_taken.ok (k : Nat) : Contract Try.prog 106 impl_Node_taken.sg (impl_Node_taken.F k) := ok_of (E := impl_Node_taken.E) (tysOk _ _) (eqsOk _) trivial Try.func106 rfl (by kernel_rfl) (impl_Node_taken.loops k) (impl_Node_taken.den k)
def impl_Node_prev.sg : Sig := ⟨[.r kNode, .b (.int .i64)], [((.int .i64), .rd)]⟩
def impl_Node_prev.E : Env := ⟨tys, bys, [], eqs⟩
def impl_Node_prev.F (k : Nat) (x : ((Int × (Bool × (Int × (Int × ((List (Int × ((Int × (Int × ((List Int) × Unit))) × Unit))) × (Int × (Int × (Int × (Int × Unit))))))))) × (Int × Unit))) : Option ((Int × Unit) × Unit) :=
  bif (x.2.1 == (0 : Int)) then
  (some (((0 : Int), ()), ()))
  else bif (Go.Dn.inB (IntKind.wrap .i64 (x.2.1 - (1 : Int))) (((List.length x.1.2.2.2.2.1) : Nat) : Int)) then
    (Go.Dn.share (List.getD x.1.2.2.2.2.1 (Int.toNat (IntKind.wrap .i64 (x.2.1 - (1 : Int)))) ((0 : Int), (((0 : Int), ((0 : Int), (([] : List Int), ()))), ()))) fun s0 =>
      some ((s0.1, ()), ()))
    else none
def impl_Node_prev.hd : Hints := ⟨[], [], [4], [0, 1], []⟩
def impl_Node_prev.lps (k : Nat) : List (Nat × Lp impl_Node_prev.sg.Out) := []
theorem impl_Node_prev.loops (k : Nat) : LoopsOk impl_Node_prev.E k impl_Node_prev.hd (impl_Node_prev.lps k) (loopsOf (Go.Proofs.Try.f209.body.getD .skip)) := trivial
theorem impl_Node_prev.den (k : Nat) (x : Sig.In impl_Node_prev.sg.ps) : denFn impl_Node_prev.E k Go.Proofs.Try.f209 impl_Node_prev.sg impl_Node_prev.hd (runL k impl_Node_prev.hd (impl_Node_prev.lps k)) x = impl_Node_prev.F k x := by kernel_rfl
theorem impl_Node_prev.ok (k : Nat) : Contract Try.prog 209 impl_Node_prev.sg (impl_Node_prev.F k) := ok_of (E := impl_Node_prev.E) (tysOk _ _) (eqsOk _) trivial Try.func209 rfl (by kernel_rfl) (impl_Node_prev.loops k) (impl_Node_prev.den k)
def impl_Node_append.sg : Sig := ⟨[.q kNode .dp, .b kMail], [(kNodeResult, .dp)]⟩
def impl_Node_append.E : Env := ⟨tys, bys, [(94, ⟨impl_size_impl_Entry.sg, impl_size_impl_Entry.F⟩), (106, ⟨impl_Node_taken.sg, impl_Node_taken.F⟩), (208, ⟨impl_copiedEntries.sg, impl_copiedEntries.F⟩), (209, ⟨impl_Node_prev.sg, impl_Node_prev.F⟩)], eqs⟩
def impl_Node_append.F (k : Nat) (x : ((Int × (Bool × (Int × (Int × ((List (Int × ((Int × (Int × ((List Int) × Unit))) × Unit))) × (Int × (Int × (Int × (Int × Unit))))))))) × ((Int × (Int × (Int × (Int × (Int × (Bool × ((Int × ((Int × (Int × ((List Int) × Unit))) × Unit)) × Unit))))))) × Unit))) : Option (((Int × ((Int × (Bool × (Int × (Int × ((List (Int × ((Int × (Int × ((List Int) × Unit))) × Unit))) × (Int × (Int × (Int × (Int × Unit))))))))) × ((List (Int × (Int × (Int × (Int × (Int × (Bool × ((Int × ((Int × (Int × ((List Int) × Unit))) × Unit)) × Unit)))))))) × Unit))) × Unit) × Unit) :=
  bif (x.1.2.2.1 == (1 : Int)) then
  (some ((((10 : Int), ((0 : Int), false, (0 : Int), (0 : Int), ([] : List (Int × ((Int × (Int × ((List Int) × Unit))) × Unit))), (0 : Int), (0 : Int), (0 : Int), (0 : Int), ()), ([] : List (Int × (Int × (Int × (Int × (Int × (Bool × ((Int × ((Int × (Int × ((List Int) × Unit))) × Unit)) × Unit)))))))), ()), ()), ()))
  else (impl_size_impl_Entry.F k (x.1.2.2.2.2.1, ())).bind fun y0 =>
    bif (decide ((y0.1.1 < x.2.1.2.2.2.1))) then
    ((impl_Node_taken.F k (x.1, x.1.2.2.2.2.2.2.1, ())).bind fun y1 =>
      some ((((0 : Int), x.1, y1.1), ()), ()))
    else (impl_Node_prev.F k (x.1, x.2.1.2.2.2.1, ())).bind fun y2 =>
      bif (y2.1.1 != x.2.1.2.2.2.2.1) then
      ((impl_Node_taken.F k (x.1, x.1.2.2.2.2.2.2.1, ())).bind fun y3 =>
        some ((((0 : Int), x.1, y3.1), ()), ()))
      else bif x.2.1.2.2.2.2.2.1 then
        ((impl_size_impl_Entry.F k (x.1.2.2.2.2.1, ())).bind fun y4 =>
          bif (decide ((x.2.1.2.2.2.1 < y4.1.1))) then
          (bif (Go.Dn.inB x.2.1.2.2.2.1 (((List.length x.1.2.2.2.2.1) : Nat) : Int)) then
            (bif (!((List.getD x.1.2.2.2.2.1 (Int.toNat x.2.1.2.2.2.1) ((0 : Int), (((0 : Int), ((0 : Int), (([] : List Int), ()))), ()))).1 == x.2.1.2.2.2.2.2.2.1.1)) then
              (bif (decide ((x.2.1.2.2.2.1 < x.1.2.2.2.2.2.2.2.2.1))) then
                (some ((((7 : Int), ((0 : Int), false, (0 : Int), (0 : Int), ([] : List (Int × ((Int × (Int × ((List Int) × Unit))) × Unit))), (0 : Int), (0 : Int), (0 : Int), (0 : Int), ()), ([] : List (Int × (Int × (Int × (Int × (Int × (Bool × ((Int × ((Int × (Int × ((List Int) × Unit))) × Unit)) × Unit)))))))), ()), ()), ()))
                else bif (x.2.1.2.2.2.1 == (100 : Int)) then
                  (some ((((2 : Int), ((0 : Int), false, (0 : Int), (0 : Int), ([] : List (Int × ((Int × (Int × ((List Int) × Unit))) × Unit))), (0 : Int), (0 : Int), (0 : Int), (0 : Int), ()), ([] : List (Int × (Int × (Int × (Int × (Int × (Bool × ((Int × ((Int × (Int × ((List Int) × Unit))) × Unit)) × Unit)))))))), ()), ()), ()))
                  else bif (decide (((0 : Int) ≤ x.2.1.2.2.2.1))) then
                    (bif (decide ((x.2.1.2.2.2.1 ≤ (((List.length x.1.2.2.2.2.1) : Nat) : Int)))) then
                      (bif (decide (((0 : Int) ≤ x.2.1.2.2.2.1))) then
                        ((impl_copiedEntries.F k ([x.2.1.2.2.2.2.2.2.1], ())).bind fun y5 =>
                          bif (Go.Dn.roomy ((List.length (List.take (Int.toNat (x.2.1.2.2.2.1 - (0 : Int))) x.1.2.2.2.2.1)) + (List.length y5.1.1)) 48) then
                          (Go.Dn.share ((List.take (Int.toNat (x.2.1.2.2.2.1 - (0 : Int))) x.1.2.2.2.2.1) ++ y5.1.1) fun s6 =>
                            (impl_size_impl_Entry.F k (s6, ())).bind fun y7 =>
                            (impl_Node_taken.F k ((x.1.1, x.1.2.1, x.1.2.2.1, x.1.2.2.2.1, s6, (bif (decide ((x.1.2.2.2.2.2.1 < x.2.1.2.2.2.1))) then x.1.2.2.2.2.2.1 else x.2.1.2.2.2.1), (bif (decide (((bif (decide ((x.1.2.2.2.2.2.2.1 < (IntKind.wrap .i64 (x.2.1.2.2.2.1 + (1 : Int)))))) then (IntKind.wrap .i64 (x.2.1.2.2.2.1 + (1 : Int))) else x.1.2.2.2.2.2.2.1) < y7.1.1))) then (bif (decide ((x.1.2.2.2.2.2.2.1 < (IntKind.wrap .i64 (x.2.1.2.2.2.1 + (1 : Int)))))) then (IntKind.wrap .i64 (x.2.1.2.2.2.1 + (1 : Int))) else x.1.2.2.2.2.2.2.1) else y7.1.1), x.1.2.2.2.2.2.2.2), (bif (decide (((bif (decide (((bif (decide ((x.1.2.2.2.2.2.2.1 < (IntKind.wrap .i64 (x.2.1.2.2.2.1 + (1 : Int)))))) then (IntKind.wrap .i64 (x.2.1.2.2.2.1 + (1 : Int))) else x.1.2.2.2.2.2.2.1) < y7.1.1))) then (bif (decide ((x.1.2.2.2.2.2.2.1 < (IntKind.wrap .i64 (x.2.1.2.2.2.1 + (1 : Int)))))) then (IntKind.wrap .i64 (x.2.1.2.2.2.1 + (1 : Int))) else x.1.2.2.2.2.2.2.1) else y7.1.1) < (bif (decide ((x.1.2.2.2.2.2.1 < x.2.1.2.2.2.1))) then x.1.2.2.2.2.2.1 else x.2.1.2.2.2.1)))) then (bif (decide (((bif (decide ((x.1.2.2.2.2.2.2.1 < (IntKind.wrap .i64 (x.2.1.2.2.2.1 + (1 : Int)))))) then (IntKind.wrap .i64 (x.2.1.2.2.2.1 + (1 : Int))) else x.1.2.2.2.2.2.2.1) < y7.1.1))) then (bif (decide ((x.1.2.2.2.2.2.2.1 < (IntKind.wrap .i64 (x.2.1.2.2.2.1 + (1 : Int)))))) then (IntKind.wrap .i64 (x.2.1.2.2.2.1 + (1 : Int))) else x.1.2.2.2.2.2.2.1) else y7.1.1) else (bif (decide ((x.1.2.2.2.2.2.1 < x.2.1.2.2.2.1))) then x.1.2.2.2.2.2.1 else x.2.1.2.2.2.1)), ())).bind fun y8 =>
                            some ((((0 : Int), (x.1.1, x.1.2.1, x.1.2.2.1, x.1.2.2.2.1, s6, (bif (decide ((x.1.2.2.2.2.2.1 < x.2.1.2.2.2.1))) then x.1.2.2.2.2.2.1 else x.2.1.2.2.2.1), (bif (decide (((bif (decide ((x.1.2.2.2.2.2.2.1 < (IntKind.wrap .i64 (x.2.1.2.2.2.1 + (1 : Int)))))) then (IntKind.wrap .i64 (x.2.1.2.2.2.1 + (1 : Int))) else x.1.2.2.2.2.2.2.1) < y7.1.1))) then (bif (decide ((x.1.2.2.2.2.2.2.1 < (IntKind.wrap .i64 (x.2.1.2.2.2.1 + (1 : Int)))))) then (IntKind.wrap .i64 (x.2.1.2.2.2.1 + (1 : Int))) else x.1.2.2.2.2.2.2.1) else y7.1.1), x.1.2.2.2.2.2.2.2), y8.1), ()), ()))
                          else none)
                        else none)
                      else none)
                    else none)
              else (impl_size_impl_Entry.F k (x.1.2.2.2.2.1, ())).bind fun y9 =>
                (impl_Node_taken.F k ((x.1.1, x.1.2.1, x.1.2.2.1, x.1.2.2.2.1, x.1.2.2.2.2.1, x.1.2.2.2.2.2.1, (bif (decide (((bif (decide ((x.1.2.2.2.2.2.2.1 < (IntKind.wrap .i64 (x.2.1.2.2.2.1 + (1 : Int)))))) then (IntKind.wrap .i64 (x.2.1.2.2.2.1 + (1 : Int))) else x.1.2.2.2.2.2.2.1) < y9.1.1))) then (bif (decide ((x.1.2.2.2.2.2.2.1 < (IntKind.wrap .i64 (x.2.1.2.2.2.1 + (1 : Int)))))) then (IntKind.wrap .i64 (x.2.1.2.2.2.1 + (1 : Int))) else x.1.2.2.2.2.2.2.1) else y9.1.1), x.1.2.2.2.2.2.2.2), (bif (decide (((bif (decide (((bif (decide ((x.1.2.2.2.2.2.2.1 < (IntKind.wrap .i64 (x.2.1.2.2.2.1 + (1 : Int)))))) then (IntKind.wrap .i64 (x.2.1.2.2.2.1 + (1 : Int))) else x.1.2.2.2.2.2.2.1) < y9.1.1))) then (bif (decide ((x.1.2.2.2.2.2.2.1 < (IntKind.wrap .i64 (x.2.1.2.2.2.1 + (1 : Int)))))) then (IntKind.wrap .i64 (x.2.1.2.2.2.1 + (1 : Int))) else x.1.2.2.2.2.2.2.1) else y9.1.1) < x.1.2.2.2.2.2.1))) then (bif (decide (((bif (decide ((x.1.2.2.2.2.2.2.1 < (IntKind.wrap .i64 (x.2.1.2.2.2.1 + (1 : Int)))))) then (IntKind.wrap .i64 (x.2.1.2.2.2.1 + (1 : Int))) else x.1.2.2.2.2.2.2.1) < y9.1.1))) then (bif (decide ((x.1.2.2.2.2.2.2.1 < (IntKind.wrap .i64 (x.2.1.2.2.2.1 + (1 : Int)))))) then (IntKind.wrap .i64 (x.2.1.2.2.2.1 + (1 : Int))) else x.1.2.2.2.2.2.2.1) else y9.1.1) else x.1.2.2.2.2.2.1), ())).bind fun y10 =>
                some ((((0 : Int), (x.1.1, x.1.2.1, x.1.2.2.1, x.1.2.2.2.1, x.1.2.2.2.2.1, x.1.2.2.2.2.2.1, (bif (decide (((bif (decide ((x.1.2.2.2.2.2.2.1 < (IntKind.wrap .i64 (x.2.1.2.2.2.1 + (1 : Int)))))) then (IntKind.wrap .i64 (x.2.1.2.2.2.1 + (1 : Int))) else x.1.2.2.2.2.2.2.1) < y9.1.1))) then (bif (decide ((x.1.2.2.2.2.2.2.1 < (IntKind.wrap .i64 (x.2.1.2.2.2.1 + (1 : Int)))))) then (IntKind.wrap .i64 (x.2.1.2.2.2.1 + (1 : Int))) else x.1.2.2.2.2.2.2.1) else y9.1.1), x.1.2.2.2.2.2.2.2), y10.1), ()), ()))
            else none)
          else bif (decide ((x.2.1.2.2.2.1 < x.1.2.2.2.2.2.2.2.2.1))) then
            (some ((((7 : Int), ((0 : Int), false, (0 : Int), (0 : Int), ([] : List (Int × ((Int × (Int × ((List Int) × Unit))) × Unit))), (0 : Int), (0 : Int), (0 : Int), (0 : Int), ()), ([] : List (Int × (Int × (Int × (Int × (Int × (Bool × ((Int × ((Int × (Int × ((List Int) × Unit))) × Unit)) × Unit)))))))), ()), ()), ()))
            else bif (x.2.1.2.2.2.1 == (100 : Int)) then
              (some ((((2 : Int), ((0 : Int), false, (0 : Int), (0 : Int), ([] : List (Int × ((Int × (Int × ((List Int) × Unit))) × Unit))), (0 : Int), (0 : Int), (0 : Int), (0 : Int), ()), ([] : List (Int × (Int × (Int × (Int × (Int × (Bool × ((Int × ((Int × (Int × ((List Int) × Unit))) × Unit)) × Unit)))))))), ()), ()), ()))
              else bif (decide (((0 : Int) ≤ x.2.1.2.2.2.1))) then
                (bif (decide ((x.2.1.2.2.2.1 ≤ (((List.length x.1.2.2.2.2.1) : Nat) : Int)))) then
                  (bif (decide (((0 : Int) ≤ x.2.1.2.2.2.1))) then
                    ((impl_copiedEntries.F k ([x.2.1.2.2.2.2.2.2.1], ())).bind fun y11 =>
                      bif (Go.Dn.roomy ((List.length (List.take (Int.toNat (x.2.1.2.2.2.1 - (0 : Int))) x.1.2.2.2.2.1)) + (List.length y11.1.1)) 48) then
                      (Go.Dn.share ((List.take (Int.toNat (x.2.1.2.2.2.1 - (0 : Int))) x.1.2.2.2.2.1) ++ y11.1.1) fun s12 =>
                        (impl_size_impl_Entry.F k (s12, ())).bind fun y13 =>
                        (impl_Node_taken.F k ((x.1.1, x.1.2.1, x.1.2.2.1, x.1.2.2.2.1, s12, (bif (decide ((x.1.2.2.2.2.2.1 < x.2.1.2.2.2.1))) then x.1.2.2.2.2.2.1 else x.2.1.2.2.2.1), (bif (decide (((bif (decide ((x.1.2.2.2.2.2.2.1 < (IntKind.wrap .i64 (x.2.1.2.2.2.1 + (1 : Int)))))) then (IntKind.wrap .i64 (x.2.1.2.2.2.1 + (1 : Int))) else x.1.2.2.2.2.2.2.1) < y13.1.1))) then (bif (decide ((x.1.2.2.2.2.2.2.1 < (IntKind.wrap .i64 (x.2.1.2.2.2.1 + (1 : Int)))))) then (IntKind.wrap .i64 (x.2.1.2.2.2.1 + (1 : Int))) else x.1.2.2.2.2.2.2.1) else y13.1.1), x.1.2.2.2.2.2.2.2), (bif (decide (((bif (decide (((bif (decide ((x.1.2.2.2.2.2.2.1 < (IntKind.wrap .i64 (x.2.1.2.2.2.1 + (1 : Int)))))) then (IntKind.wrap .i64 (x.2.1.2.2.2.1 + (1 : Int))) else x.1.2.2.2.2.2.2.1) < y13.1.1))) then (bif (decide ((x.1.2.2.2.2.2.2.1 < (IntKind.wrap .i64 (x.2.1.2.2.2.1 + (1 : Int)))))) then (IntKind.wrap .i64 (x.2.1.2.2.2.1 + (1 : Int))) else x.1.2.2.2.2.2.2.1) else y13.1.1) < (bif (decide ((x.1.2.2.2.2.2.1 < x.2.1.2.2.2.1))) then x.1.2.2.2.2.2.1 else x.2.1.2.2.2.1)))) then (bif (decide (((bif (decide ((x.1.2.2.2.2.2.2.1 < (IntKind.wrap .i64 (x.2.1.2.2.2.1 + (1 : Int)))))) then (IntKind.wrap .i64 (x.2.1.2.2.2.1 + (1 : Int))) else x.1.2.2.2.2.2.2.1) < y13.1.1))) then (bif (decide ((x.1.2.2.2.2.2.2.1 < (IntKind.wrap .i64 (x.2.1.2.2.2.1 + (1 : Int)))))) then (IntKind.wrap .i64 (x.2.1.2.2.2.1 + (1 : Int))) else x.1.2.2.2.2.2.2.1) else y13.1.1) else (bif (decide ((x.1.2.2.2.2.2.1 < x.2.1.2.2.2.1))) then x.1.2.2.2.2.2.1 else x.2.1.2.2.2.1)), ())).bind fun y14 =>
                        some ((((0 : Int), (x.1.1, x.1.2.1, x.1.2.2.1, x.1.2.2.2.1, s12, (bif (decide ((x.1.2.2.2.2.2.1 < x.2.1.2.2.2.1))) then x.1.2.2.2.2.2.1 else x.2.1.2.2.2.1), (bif (decide (((bif (decide ((x.1.2.2.2.2.2.2.1 < (IntKind.wrap .i64 (x.2.1.2.2.2.1 + (1 : Int)))))) then (IntKind.wrap .i64 (x.2.1.2.2.2.1 + (1 : Int))) else x.1.2.2.2.2.2.2.1) < y13.1.1))) then (bif (decide ((x.1.2.2.2.2.2.2.1 < (IntKind.wrap .i64 (x.2.1.2.2.2.1 + (1 : Int)))))) then (IntKind.wrap .i64 (x.2.1.2.2.2.1 + (1 : Int))) else x.1.2.2.2.2.2.2.1) else y13.1.1), x.1.2.2.2.2.2.2.2), y14.1), ()), ()))
                      else none)
                    else none)
                  else none)
                else none)
        else (impl_size_impl_Entry.F k (x.1.2.2.2.2.1, ())).bind fun y15 =>
          (impl_Node_taken.F k ((x.1.1, x.1.2.1, x.1.2.2.1, x.1.2.2.2.1, x.1.2.2.2.2.1, x.1.2.2.2.2.2.1, (bif (decide (((bif (decide ((x.1.2.2.2.2.2.2.1 < x.2.1.2.2.2.1))) then x.2.1.2.2.2.1 else x.1.2.2.2.2.2.2.1) < y15.1.1))) then (bif (decide ((x.1.2.2.2.2.2.2.1 < x.2.1.2.2.2.1))) then x.2.1.2.2.2.1 else x.1.2.2.2.2.2.2.1) else y15.1.1), x.1.2.2.2.2.2.2.2), (bif (decide (((bif (decide (((bif (decide ((x.1.2.2.2.2.2.2.1 < x.2.1.2.2.2.1))) then x.2.1.2.2.2.1 else x.1.2.2.2.2.2.2.1) < y15.1.1))) then (bif (decide ((x.1.2.2.2.2.2.2.1 < x.2.1.2.2.2.1))) then x.2.1.2.2.2.1 else x.1.2.2.2.2.2.2.1) else y15.1.1) < x.1.2.2.2.2.2.1))) then (bif (decide (((bif (decide ((x.1.2.2.2.2.2.2.1 < x.2.1.2.2.2.1))) then x.2.1.2.2.2.1 else x.1.2.2.2.2.2.2.1) < y15.1.1))) then (bif (decide ((x.1.2.2.2.2.2.2.1 < x.2.1.2.2.2.1))) then x.2.1.2.2.2.1 else x.1.2.2.2.2.2.2.1) else y15.1.1) else x.1.2.2.2.2.2.1), ())).bind fun y16 =>
          some ((((0 : Int), (x.1.1, x.1.2.1, x.1.2.2.1, x.1.2.2.2.1, x.1.2.2.2.2.1, x.1.2.2.2.2.2.1, (bif (decide (((bif (decide ((x.1.2.2.2.2.2.2.1 < x.2.1.2.2.2.1))) then x.2.1.2.2.2.1 else x.1.2.2.2.2.2.2.1) < y15.1.1))) then (bif (decide ((x.1.2.2.2.2.2.2.1 < x.2.1.2.2.2.1))) then x.2.1.2.2.2.1 else x.1.2.2.2.2.2.2.1) else y15.1.1), x.1.2.2.2.2.2.2.2), y16.1), ()), ())
def impl_Node_append.hd : Hints := ⟨[], [(0, [0, 3, 4]), (1, [0, 3, 4, 5])], [4], [0, 1, 3, 4, 5, 6], [(3, [0, 1, 3, 7, 15, 0, 32, 127, 255, 511, 511, 1535, 4095, 511, 8703, 32767, 65535, 131071]), (4, [0, 1, 3, 0, 0, 16, 48, 112, 248, 511, 1023]), (8, [0, 1, 0, 4, 12, 28, 60, 127, 255, 511, 1023, 2047, 4095, 511, 8703, 32767, 65535, 131071, 511, 262655, 786943, 2097151, 4194303, 8388607]), (10, [0, 1, 0, 4, 12, 28, 63, 127]), (14, [0, 0, 2, 6, 14, 0, 32, 126, 0, 256, 768, 1792, 4094, 8191, 16383, 32767]), (15, [0, 0, 2, 6, 14, 0, 32, 126, 255, 511, 1023]), (16, [0, 0, 2, 6, 14, 0, 62, 0, 128, 384, 896, 1920, 4094, 8191, 16383, 32767]), (17, [0, 1, 3, 0, 0, 16, 48, 112, 0, 256, 768, 1792, 4080, 8184, 16383, 32767])]⟩
def impl_Node_append.lps (k : Nat) : List (Nat × Lp impl_Node_append.sg.Out) := []
theorem impl_Node_append.loops (k : Nat) : LoopsOk impl_Node_append.E k impl_Node_append.hd (impl_Node_append.lps k) (loopsOf (Go.Proofs.Try.f96.body.getD .skip)) := trivial
theorem impl_Node_append.den (k : Nat) (x : Sig.In impl_Node_append.sg.ps) : denFn impl_Node_append.E k Go.Proofs.Try.f96 impl_Node_append.sg impl_Node_append.hd (runL k impl_Node_append.hd (impl_Node_append.lps k)) x = impl_Node_append.F k x := by kernel_rfl
theorem impl_Node_append.ok (k : Nat) : Contract Try.prog 96 impl_Node_append.sg (impl_Node_append.F k) := ok_of (E := impl_Node_append.E) (tysOk _ _) (eqsOk _) ⟨impl_size_impl_Entry.ok k, impl_Node_taken.ok k, impl_copiedEntries.ok k, impl_Node_prev.ok k, trivial⟩ Try.func96 rfl (by kernel_rfl) (impl_Node_append.loops k) (impl_Node_append.den k)
def impl_HearMail.sg : Sig := ⟨[.b kNode, .b kMail], [(kNodeResult, .dp)]⟩
def impl_HearMail.E : Env := ⟨tys, bys, [(23, ⟨impl_MailFault.sg, impl_MailFault.F⟩), (92, ⟨impl_upFault.sg, impl_upFault.F⟩), (93, ⟨impl_Node_copied.sg, impl_Node_copied.F⟩), (94, ⟨impl_size_impl_Entry.sg, impl_size_impl_Entry.F⟩), (95, ⟨impl_Node_agree.sg, impl_Node_agree.F⟩), (96, ⟨impl_Node_append.sg, impl_Node_append.F⟩)], eqs⟩
def impl_HearMail.F (k : Nat) (x : ((Int × (Bool × (Int × (Int × ((List (Int × ((Int × (Int × ((List Int) × Unit))) × Unit))) × (Int × (Int × (Int × (Int × Unit))))))))) × ((Int × (Int × (Int × (Int × (Int × (Bool × ((Int × ((Int × (Int × ((List Int) × Unit))) × Unit)) × Unit))))))) × Unit))) : Option (((Int × ((Int × (Bool × (Int × (Int × ((List (Int × ((Int × (Int × ((List Int) × Unit))) × Unit))) × (Int × (Int × (Int × (Int × Unit))))))))) × ((List (Int × (Int × (Int × (Int × (Int × (Bool × ((Int × ((Int × (Int × ((List Int) × Unit))) × Unit)) × Unit)))))))) × Unit))) × Unit) × Unit) :=
  (impl_upFault.F k (x.1, ())).bind fun y0 =>
  bif (y0.1.1 == (0 : Int)) then
  ((impl_MailFault.F k x).bind fun y1 =>
    bif (y1.1.1 != (0 : Int)) then
    (some (((y1.1.1, ((0 : Int), false, (0 : Int), (0 : Int), ([] : List (Int × ((Int × (Int × ((List Int) × Unit))) × Unit))), (0 : Int), (0 : Int), (0 : Int), (0 : Int), ()), ([] : List (Int × (Int × (Int × (Int × (Int × (Bool × ((Int × ((Int × (Int × ((List Int) × Unit))) × Unit)) × Unit)))))))), ()), ()), ()))
    else (impl_Node_copied.F k (x.1, ())).bind fun y2 =>
      bif (decide ((x.2.1.2.2.1 < x.1.2.2.2.1))) then
      (some ((((0 : Int), y2.1.1, ([] : List (Int × (Int × (Int × (Int × (Int × (Bool × ((Int × ((Int × (Int × ((List Int) × Unit))) × Unit)) × Unit)))))))), ()), ()), ()))
      else bif (decide ((x.2.1.2.2.1 > x.1.2.2.2.1))) then
        (bif (x.2.1.1 == (2 : Int)) then
          (some ((((0 : Int), (y2.1.1.1, y2.1.1.2.1, (0 : Int), x.2.1.2.2.1, y2.1.1.2.2.2.2.1, y2.1.1.2.2.2.2.2.1, (0 : Int), (0 : Int), y2.1.1.2.2.2.2.2.2.2.2), ([] : List (Int × (Int × (Int × (Int × (Int × (Bool × ((Int × ((Int × (Int × ((List Int) × Unit))) × Unit)) × Unit)))))))), ()), ()), ()))
          else (impl_Node_append.F k ((y2.1.1.1, y2.1.1.2.1, (0 : Int), x.2.1.2.2.1, y2.1.1.2.2.2.2.1, y2.1.1.2.2.2.2.2.1, (0 : Int), (0 : Int), y2.1.1.2.2.2.2.2.2.2.2), x.2)).bind fun y3 =>
            some y3)
        else bif (x.2.1.1 == (2 : Int)) then
          (bif (y2.1.1.2.2.1 == (1 : Int)) then
            (bif (decide ((x.2.1.2.2.2.1 > y2.1.1.2.2.2.2.2.2.2.1))) then
              ((impl_size_impl_Entry.F k (y2.1.1.2.2.2.2.1, ())).bind fun y4 =>
                bif (decide ((x.2.1.2.2.2.1 ≤ y4.1.1))) then
                ((impl_Node_agree.F k ((y2.1.1.1, y2.1.1.2.1, y2.1.1.2.2.1, y2.1.1.2.2.2.1, y2.1.1.2.2.2.2.1, y2.1.1.2.2.2.2.2.1, y2.1.1.2.2.2.2.2.2.1, x.2.1.2.2.2.1, y2.1.1.2.2.2.2.2.2.2.2), ())).bind fun y5 =>
                  some ((((0 : Int), y5.2.1, ([] : List (Int × (Int × (Int × (Int × (Int × (Bool × ((Int × ((Int × (Int × ((List Int) × Unit))) × Unit)) × Unit)))))))), ()), ()), ()))
                else (impl_Node_agree.F k y2.1).bind fun y6 =>
                  some ((((0 : Int), y6.2.1, ([] : List (Int × (Int × (Int × (Int × (Int × (Bool × ((Int × ((Int × (Int × ((List Int) × Unit))) × Unit)) × Unit)))))))), ()), ()), ()))
              else (impl_Node_agree.F k y2.1).bind fun y7 =>
                some ((((0 : Int), y7.2.1, ([] : List (Int × (Int × (Int × (Int × (Int × (Bool × ((Int × ((Int × (Int × ((List Int) × Unit))) × Unit)) × Unit)))))))), ()), ()), ()))
            else some ((((0 : Int), y2.1.1, ([] : List (Int × (Int × (Int × (Int × (Int × (Bool × ((Int × ((Int × (Int × ((List Int) × Unit))) × Unit)) × Unit)))))))), ()), ()), ()))
          else (impl_Node_append.F k (y2.1.1, x.2)).bind fun y8 =>
            some y8)
  else bif (y0.1.1 != (0 : Int)) then
    (some (((y0.1.1, ((0 : Int), false, (0 : Int), (0 : Int), ([] : List (Int × ((Int × (Int × ((List Int) × Unit))) × Unit))), (0 : Int), (0 : Int), (0 : Int), (0 : Int), ()), ([] : List (Int × (Int × (Int × (Int × (Int × (Bool × ((Int × ((Int × (Int × ((List Int) × Unit))) × Unit)) × Unit)))))))), ()), ()), ()))
    else (impl_Node_copied.F k (x.1, ())).bind fun y9 =>
      bif (decide ((x.2.1.2.2.1 < x.1.2.2.2.1))) then
      (some ((((0 : Int), y9.1.1, ([] : List (Int × (Int × (Int × (Int × (Int × (Bool × ((Int × ((Int × (Int × ((List Int) × Unit))) × Unit)) × Unit)))))))), ()), ()), ()))
      else bif (decide ((x.2.1.2.2.1 > x.1.2.2.2.1))) then
        (bif (x.2.1.1 == (2 : Int)) then
          (some ((((0 : Int), (y9.1.1.1, y9.1.1.2.1, (0 : Int), x.2.1.2.2.1, y9.1.1.2.2.2.2.1, y9.1.1.2.2.2.2.2.1, (0 : Int), (0 : Int), y9.1.1.2.2.2.2.2.2.2.2), ([] : List (Int × (Int × (Int × (Int × (Int × (Bool × ((Int × ((Int × (Int × ((List Int) × Unit))) × Unit)) × Unit)))))))), ()), ()), ()))
          else (impl_Node_append.F k ((y9.1.1.1, y9.1.1.2.1, (0 : Int), x.2.1.2.2.1, y9.1.1.2.2.2.2.1, y9.1.1.2.2.2.2.2.1, (0 : Int), (0 : Int), y9.1.1.2.2.2.2.2.2.2.2), x.2)).bind fun y10 =>
            some y10)
        else bif (x.2.1.1 == (2 : Int)) then
          (bif (y9.1.1.2.2.1 == (1 : Int)) then
            (bif (decide ((x.2.1.2.2.2.1 > y9.1.1.2.2.2.2.2.2.2.1))) then
              ((impl_size_impl_Entry.F k (y9.1.1.2.2.2.2.1, ())).bind fun y11 =>
                bif (decide ((x.2.1.2.2.2.1 ≤ y11.1.1))) then
                ((impl_Node_agree.F k ((y9.1.1.1, y9.1.1.2.1, y9.1.1.2.2.1, y9.1.1.2.2.2.1, y9.1.1.2.2.2.2.1, y9.1.1.2.2.2.2.2.1, y9.1.1.2.2.2.2.2.2.1, x.2.1.2.2.2.1, y9.1.1.2.2.2.2.2.2.2.2), ())).bind fun y12 =>
                  some ((((0 : Int), y12.2.1, ([] : List (Int × (Int × (Int × (Int × (Int × (Bool × ((Int × ((Int × (Int × ((List Int) × Unit))) × Unit)) × Unit)))))))), ()), ()), ()))
                else (impl_Node_agree.F k y9.1).bind fun y13 =>
                  some ((((0 : Int), y13.2.1, ([] : List (Int × (Int × (Int × (Int × (Int × (Bool × ((Int × ((Int × (Int × ((List Int) × Unit))) × Unit)) × Unit)))))))), ()), ()), ()))
              else (impl_Node_agree.F k y9.1).bind fun y14 =>
                some ((((0 : Int), y14.2.1, ([] : List (Int × (Int × (Int × (Int × (Int × (Bool × ((Int × ((Int × (Int × ((List Int) × Unit))) × Unit)) × Unit)))))))), ()), ()), ()))
            else some ((((0 : Int), y9.1.1, ([] : List (Int × (Int × (Int × (Int × (Int × (Bool × ((Int × ((Int × (Int × ((List Int) × Unit))) × Unit)) × Unit)))))))), ()), ()), ()))
          else (impl_Node_append.F k (y9.1.1, x.2)).bind fun y15 =>
            some y15
def impl_HearMail.hd : Hints := ⟨[], [(0, [3, 4, 6])], [4], [0, 1, 2, 3, 4, 5, 6], [(10, [0, 1, 0, 4, 15, 31, 63, 127, 255, 511]), (13, [0, 1, 0, 4, 15, 31, 63, 127, 63, 319, 831, 2047, 4095])]⟩
def impl_HearMail.lps (k : Nat) : List (Nat × Lp impl_HearMail.sg.Out) := []
theorem impl_HearMail.loops (k : Nat) : LoopsOk impl_HearMail.E k impl_HearMail.hd (impl_HearMail.lps k) (loopsOf (Go.Proofs.Try.f20.body.getD .skip)) := trivial
theorem impl_HearMail.den (k : Nat) (x : Sig.In impl_HearMail.sg.ps) : denFn impl_HearMail.E k Go.Proofs.Try.f20 impl_HearMail.sg impl_HearMail.hd (runL k impl_HearMail.hd (impl_HearMail.lps k)) x = impl_HearMail.F k x := by kernel_rfl
theorem impl_HearMail.ok (k : Nat) : Contract Try.prog 20 impl_HearMail.sg (impl_HearMail.F k) := ok_of (E := impl_HearMail.E) (tysOk _ _) (eqsOk _) ⟨impl_MailFault.ok k, impl_upFault.ok k, impl_Node_copied.ok k, impl_size_impl_Entry.ok k, impl_Node_agree.ok k, impl_Node_append.ok k, trivial⟩ Try.func20 rfl (by kernel_rfl) (impl_HearMail.loops k) (impl_HearMail.den k)
def spec_l12Zero.sg : Sig := ⟨[.b kEntry], [(.bool, .rd)]⟩
def spec_l12Zero.E : Env := ⟨tys, bys, [], eqs⟩
def spec_l12Zero.F (k : Nat) (x : ((Int × ((Int × (Int × ((List Int) × Unit))) × Unit)) × Unit)) : Option ((Bool × Unit) × Unit) :=
  bif (x.1.1 == (0 : Int)) then
  (bif (x.1.2.1.1 == (0 : Int)) then
    (bif (x.1.2.1.2.1 == (0 : Int)) then
      (some ((((((List.length x.1.2.1.2.2.1) : Nat) : Int) == (0 : Int)), ()), ()))
      else some ((false, ()), ()))
    else some ((false, ()), ()))
  else some ((false, ()), ())
def spec_l12Zero.hd : Hints := ⟨[], [], [2], [0, 1], []⟩
def spec_l12Zero.lps (k : Nat) : List (Nat × Lp spec_l12Zero.sg.Out) := []
theorem spec_l12Zero.loops (k : Nat) : LoopsOk spec_l12Zero.E k spec_l12Zero.hd (spec_l12Zero.lps k) (loopsOf (Go.Proofs.Try.f286.body.getD .skip)) := trivial
theorem spec_l12Zero.den (k : Nat) (x : Sig.In spec_l12Zero.sg.ps) : denFn spec_l12Zero.E k Go.Proofs.Try.f286 spec_l12Zero.sg spec_l12Zero.hd (runL k spec_l12Zero.hd (spec_l12Zero.lps k)) x = spec_l12Zero.F k x := by kernel_rfl
theorem spec_l12Zero.ok (k : Nat) : Contract Try.prog 286 spec_l12Zero.sg (spec_l12Zero.F k) := ok_of (E := spec_l12Zero.E) (tysOk _ _) (eqsOk _) trivial Try.func286 rfl (by kernel_rfl) (spec_l12Zero.loops k) (spec_l12Zero.den k)
def spec_l12Form.sg : Sig := ⟨[.b kMail], [(.bool, .rd)]⟩
def spec_l12Form.E : Env := ⟨tys, bys, [(286, ⟨spec_l12Zero.sg, spec_l12Zero.F⟩)], eqs⟩
def spec_l12Form.F (k : Nat) (x : ((Int × (Int × (Int × (Int × (Int × (Bool × ((Int × ((Int × (Int × ((List Int) × Unit))) × Unit)) × Unit))))))) × Unit)) : Option ((Bool × Unit) × Unit) :=
  bif (x.1.1 == (2 : Int)) then
  (bif (!x.1.2.2.2.2.2.1) then
    (bif (x.1.2.2.2.2.1 == (0 : Int)) then
      ((spec_l12Zero.F k x.1.2.2.2.2.2.2).bind fun y0 =>
        some y0)
      else some ((false, ()), ()))
    else some ((false, ()), ()))
  else bif ((x.1.2.2.2.1 == (0 : Int)) == (x.1.2.2.2.2.1 == (0 : Int))) then
    (bif x.1.2.2.2.2.2.1 then
      (some (((decide ((x.1.2.2.2.2.1 ≤ x.1.2.2.1))), ()), ()))
      else (spec_l12Zero.F k x.1.2.2.2.2.2.2).bind fun y1 =>
        bif y1.1.1 then
        (some (((decide ((x.1.2.2.2.2.1 ≤ x.1.2.2.1))), ()), ()))
        else some ((false, ()), ()))
    else some ((false, ()), ())
def spec_l12Form.hd : Hints := ⟨[], [], [2], [0, 1], []⟩
def spec_l12Form.lps (k : Nat) : List (Nat × Lp spec_l12Form.sg.Out) := []
theorem spec_l12Form.loops (k : Nat) : LoopsOk spec_l12Form.E k spec_l12Form.hd (spec_l12Form.lps k) (loopsOf (Go.Proofs.Try.f212.body.getD .skip)) := trivial
theorem spec_l12Form.den (k : Nat) (x : Sig.In spec_l12Form.sg.ps) : denFn spec_l12Form.E k Go.Proofs.Try.f212 spec_l12Form.sg spec_l12Form.hd (runL k spec_l12Form.hd (spec_l12Form.lps k)) x = spec_l12Form.F k x := by kernel_rfl
theorem spec_l12Form.ok (k : Nat) : Contract Try.prog 212 spec_l12Form.sg (spec_l12Form.F k) := ok_of (E := spec_l12Form.E) (tysOk _ _) (eqsOk _) ⟨spec_l12Zero.ok k, trivial⟩ Try.func212 rfl (by kernel_rfl) (spec_l12Form.loops k) (spec_l12Form.den k)
def spec_l12Mail.sg : Sig := ⟨[.r kNode, .b kMail], [((.int .i64), .rd)]⟩
def spec_l12Mail.E : Env := ⟨tys, bys, [(121, ⟨spec_l1In.sg, spec_l1In.F⟩), (211, ⟨spec_l10Epoch.sg, spec_l10Epoch.F⟩), (212, ⟨spec_l12Form.sg, spec_l12Form.F⟩), (213, ⟨spec_EntryFault.sg, spec_EntryFault.F⟩)], eqs⟩
def spec_l12Mail.F (k : Nat) (x : ((Int × (Bool × (Int × (Int × ((List (Int × ((Int × (Int × ((List Int) × Unit))) × Unit))) × (Int × (Int × (Int × (Int × Unit))))))))) × ((Int × (Int × (Int × (Int × (Int × (Bool × ((Int × ((Int × (Int × ((List Int) × Unit))) × Unit)) × Unit))))))) × Unit))) : Option ((Int × Unit) × Unit) :=
  (spec_l1In.F k (x.2.1.1, (1 : Int), (2 : Int), ())).bind fun y0 =>
  bif (!y0.1.1) then
  (some (((1 : Int), ()), ()))
  else bif (x.2.1.2.1 != x.1.1) then
    (some (((1 : Int), ()), ()))
    else (spec_l10Epoch.F k (x.2.1.2.2.1, ())).bind fun y1 =>
      bif (!y1.1.1) then
      (some (((3 : Int), ()), ()))
      else (spec_l1In.F k (x.2.1.2.2.2.1, (0 : Int), (100 : Int), ())).bind fun y2 =>
        bif (!y2.1.1) then
        (some (((3 : Int), ()), ()))
        else (spec_l1In.F k (x.2.1.2.2.2.2.1, (0 : Int), (1000 : Int), ())).bind fun y3 =>
          bif (!y3.1.1) then
          (some (((3 : Int), ()), ()))
          else (spec_l12Form.F k x.2).bind fun y4 =>
            bif (!y4.1.1) then
            (some (((1 : Int), ()), ()))
            else bif x.2.1.2.2.2.2.2.1 then
              ((spec_EntryFault.F k x.2.1.2.2.2.2.2.2).bind fun y5 =>
                bif (y5.1.1 != (0 : Int)) then
                (some y5)
                else bif (decide ((x.2.1.2.2.2.2.2.2.1.1 > x.2.1.2.2.1))) then
                  (some (((1 : Int), ()), ()))
                  else bif (decide ((x.2.1.2.2.2.2.2.2.1.1 < x.2.1.2.2.2.2.1))) then
                    (some (((1 : Int), ()), ()))
                    else some (((0 : Int), ()), ()))
              else some (((0 : Int), ()), ())
def spec_l12Mail.hd : Hints := ⟨[], [], [4], [0, 1, 3, 5], [(1, [0, 1, 3, 7, 15, 31, 63, 31, 159, 415, 927, 2047, 4095])]⟩
def spec_l12Mail.lps (k : Nat) : List (Nat × Lp spec_l12Mail.sg.Out) := []
theorem spec_l12Mail.loops (k : Nat) : LoopsOk spec_l12Mail.E k spec_l12Mail.hd (spec_l12Mail.lps k) (loopsOf (Go.Proofs.Try.f99.body.getD .skip)) := trivial
theorem spec_l12Mail.den (k : Nat) (x : Sig.In spec_l12Mail.sg.ps) : denFn spec_l12Mail.E k Go.Proofs.Try.f99 spec_l12Mail.sg spec_l12Mail.hd (runL k spec_l12Mail.hd (spec_l12Mail.lps k)) x = spec_l12Mail.F k x := by kernel_rfl
theorem spec_l12Mail.ok (k : Nat) : Contract Try.prog 99 spec_l12Mail.sg (spec_l12Mail.F k) := ok_of (E := spec_l12Mail.E) (tysOk _ _) (eqsOk _) ⟨spec_l1In.ok k, spec_l10Epoch.ok k, spec_l12Form.ok k, spec_EntryFault.ok k, trivial⟩ Try.func99 rfl (by kernel_rfl) (spec_l12Mail.loops k) (spec_l12Mail.den k)
def spec_l12Agree.sg : Sig := ⟨[.p kNode .fl .fl], []⟩
def spec_l12Agree.E : Env := ⟨tys, bys, [(280, ⟨spec_l1Max.sg, spec_l1Max.F⟩), (281, ⟨spec_l1Min.sg, spec_l1Min.F⟩)], eqs⟩
def spec_l12Agree.F (k : Nat) (x : ((Int × (Bool × (Int × (Int × ((List (Int × ((Int × (Int × ((List Int) × Unit))) × Unit))) × (Int × (Int × (Int × (Int × Unit))))))))) × Unit)) : Option (Unit × ((Int × (Bool × (Int × (Int × ((List (Int × ((Int × (Int × ((List Int) × Unit))) × Unit))) × (Int × (Int × (Int × (Int × Unit))))))))) × Unit)) :=
  (spec_l1Min.F k (x.1.2.2.2.2.2.1, x.1.2.2.2.2.2.2.2.1, ())).bind fun y0 =>
  (spec_l1Max.F k (x.1.2.2.2.2.2.2.2.2.1, y0.1)).bind fun y1 =>
  some ((), (x.1.1, x.1.2.1, x.1.2.2.1, x.1.2.2.2.1, x.1.2.2.2.2.1, x.1.2.2.2.2.2.1, x.1.2.2.2.2.2.2.1, x.1.2.2.2.2.2.2.2.1, y1.1), ())
def spec_l12Agree.hd : Hints := ⟨[], [], [], [0], [(0, [0, 0, 2, 6, 14, 0, 32, 96, 224, 0, 512, 1536, 3584, 8160, 16382, 32767, 65535, 131071])]⟩
def spec_l12Agree.lps (k : Nat) : List (Nat × Lp spec_l12Agree.sg.Out) := []
theorem spec_l12Agree.loops (k : Nat) : LoopsOk spec_l12Agree.E k spec_l12Agree.hd (spec_l12Agree.lps k) (loopsOf (Go.Proofs.Try.f215.body.getD .skip)) := trivial
theorem spec_l12Agree.den (k : Nat) (x : Sig.In spec_l12Agree.sg.ps) : denFn spec_l12Agree.E k Go.Proofs.Try.f215 spec_l12Agree.sg spec_l12Agree.hd (runL k spec_l12Agree.hd (spec_l12Agree.lps k)) x = spec_l12Agree.F k x := by kernel_rfl
theorem spec_l12Agree.ok (k : Nat) : Contract Try.prog 215 spec_l12Agree.sg (spec_l12Agree.F k) := ok_of (E := spec_l12Agree.E) (tysOk _ _) (eqsOk _) ⟨spec_l1Max.ok k, spec_l1Min.ok k, trivial⟩ Try.func215 rfl (by kernel_rfl) (spec_l12Agree.loops k) (spec_l12Agree.den k)
def spec_l12Prev.sg : Sig := ⟨[.r kNode, .b (.int .i64)], [((.int .i64), .rd)]⟩
def spec_l12Prev.E : Env := ⟨tys, bys, [], eqs⟩
def spec_l12Prev.F (k : Nat) (x : ((Int × (Bool × (Int × (Int × ((List (Int × ((Int × (Int × ((List Int) × Unit))) × Unit))) × (Int × (Int × (Int × (Int × Unit))))))))) × (Int × Unit))) : Option ((Int × Unit) × Unit) :=
  bif (x.2.1 == (0 : Int)) then
  (some (((0 : Int), ()), ()))
  else bif (Go.Dn.inB (IntKind.wrap .i64 (x.2.1 - (1 : Int))) (((List.length x.1.2.2.2.2.1) : Nat) : Int)) then
    (Go.Dn.share (List.getD x.1.2.2.2.2.1 (Int.toNat (IntKind.wrap .i64 (x.2.1 - (1 : Int)))) ((0 : Int), (((0 : Int), ((0 : Int), (([] : List Int), ()))), ()))) fun s0 =>
      some ((s0.1, ()), ()))
    else none
def spec_l12Prev.hd : Hints := ⟨[], [], [4], [0, 1], []⟩
def spec_l12Prev.lps (k : Nat) : List (Nat × Lp spec_l12Prev.sg.Out) := []
theorem spec_l12Prev.loops (k : Nat) : LoopsOk spec_l12Prev.E k spec_l12Prev.hd (spec_l12Prev.lps k) (loopsOf (Go.Proofs.Try.f289.body.getD .skip)) := trivial
theorem spec_l12Prev.den (k : Nat) (x : Sig.In spec_l12Prev.sg.ps) : denFn spec_l12Prev.E k Go.Proofs.Try.f289 spec_l12Prev.sg spec_l12Prev.hd (runL k spec_l12Prev.hd (spec_l12Prev.lps k)) x = spec_l12Prev.F k x := by kernel_rfl
theorem spec_l12Prev.ok (k : Nat) : Contract Try.prog 289 spec_l12Prev.sg (spec_l12Prev.F k) := ok_of (E := spec_l12Prev.E) (tysOk _ _) (eqsOk _) trivial Try.func289 rfl (by kernel_rfl) (spec_l12Prev.loops k) (spec_l12Prev.den k)

end
end Go.Proofs.Ythnidahfdnnboaa
set_option linter.unusedVariables false
set_option maxRecDepth 100000
namespace Go.Proofs.Ythnidahfdnnboaa
open Go Go.Dn
noncomputable section

def spec_l12Taken.sg : Sig := ⟨[.r kNode, .b (.int .i64)], [(kMail, .fl)]⟩
def spec_l12Taken.E : Env := ⟨tys, bys, [], eqs⟩
def spec_l12Taken.F (k : Nat) (x : ((Int × (Bool × (Int × (Int × ((List (Int × ((Int × (Int × ((List Int) × Unit))) × Unit))) × (Int × (Int × (Int × (Int × Unit))))))))) × (Int × Unit))) : Option (((Int × (Int × (Int × (Int × (Int × (Bool × ((Int × ((Int × (Int × ((List Int) × Unit))) × Unit)) × Unit))))))) × Unit) × Unit) :=
  some ((((2 : Int), (IntKind.wrap .i64 ((1 : Int) - x.1.1)), x.1.2.2.2.1, x.2.1, (0 : Int), false, ((0 : Int), ((0 : Int), (0 : Int), ([] : List Int), ()), ()), ()), ()), ())
def spec_l12Taken.hd : Hints := ⟨[], [], [4], [0, 1, 4], [(1, [0, 1, 3, 7, 15, 0, 32, 96, 224, 0, 1023, 2047])]⟩
def spec_l12Taken.lps (k : Nat) : List (Nat × Lp spec_l12Taken.sg.Out) := []
theorem spec_l12Taken.loops (k : Nat) : LoopsOk spec_l12Taken.E k spec_l12Taken.hd (spec_l12Taken.lps k) (loopsOf (Go.Proofs.Try.f290.body.getD .skip)) := trivial
theorem spec_l12Taken.den (k : Nat) (x : Sig.In spec_l12Taken.sg.ps) : denFn spec_l12Taken.E k Go.Proofs.Try.f290 spec_l12Taken.sg spec_l12Taken.hd (runL k spec_l12Taken.hd (spec_l12Taken.lps k)) x = spec_l12Taken.F k x := by kernel_rfl
theorem spec_l12Taken.ok (k : Nat) : Contract Try.prog 290 spec_l12Taken.sg (spec_l12Taken.F k) := ok_of (E := spec_l12Taken.E) (tysOk _ _) (eqsOk _) trivial Try.func290 rfl (by kernel_rfl) (spec_l12Taken.loops k) (spec_l12Taken.den k)
def spec_l12Append.sg : Sig := ⟨[.p kNode .fl .fl, .b kMail], [(kMail, .fl), ((.int .i64), .rd)]⟩
def spec_l12Append.E : Env := ⟨tys, bys, [(280, ⟨spec_l1Max.sg, spec_l1Max.F⟩), (281, ⟨spec_l1Min.sg, spec_l1Min.F⟩), (288, ⟨spec_l12CopyEntry.sg, spec_l12CopyEntry.F⟩), (289, ⟨spec_l12Prev.sg, spec_l12Prev.F⟩), (290, ⟨spec_l12Taken.sg, spec_l12Taken.F⟩)], eqs⟩
def spec_l12Append.F (k : Nat) (x : ((Int × (Bool × (Int × (Int × ((List (Int × ((Int × (Int × ((List Int) × Unit))) × Unit))) × (Int × (Int × (Int × (Int × Unit))))))))) × ((Int × (Int × (Int × (Int × (Int × (Bool × ((Int × ((Int × (Int × ((List Int) × Unit))) × Unit)) × Unit))))))) × Unit))) : Option (((Int × (Int × (Int × (Int × (Int × (Bool × ((Int × ((Int × (Int × ((List Int) × Unit))) × Unit)) × Unit))))))) × (Int × Unit)) × ((Int × (Bool × (Int × (Int × ((List (Int × ((Int × (Int × ((List Int) × Unit))) × Unit))) × (Int × (Int × (Int × (Int × Unit))))))))) × Unit)) :=
  bif (x.1.2.2.1 == (1 : Int)) then
  (some ((((0 : Int), (0 : Int), (0 : Int), (0 : Int), (0 : Int), false, ((0 : Int), ((0 : Int), (0 : Int), ([] : List Int), ()), ()), ()), (10 : Int), ()), x.1, ()))
  else bif (decide (((((List.length x.1.2.2.2.2.1) : Nat) : Int) < x.2.1.2.2.2.1))) then
    ((spec_l12Taken.F k (x.1, x.1.2.2.2.2.2.2.1, ())).bind fun y0 =>
      some ((y0.1.1, (0 : Int), ()), x.1, ()))
    else (spec_l12Prev.F k (x.1, x.2.1.2.2.2.1, ())).bind fun y1 =>
      bif (y1.1.1 != x.2.1.2.2.2.2.1) then
      ((spec_l12Taken.F k (x.1, x.1.2.2.2.2.2.2.1, ())).bind fun y2 =>
        some ((y2.1.1, (0 : Int), ()), x.1, ()))
      else bif x.2.1.2.2.2.2.2.1 then
        (bif (decide (((((List.length x.1.2.2.2.2.1) : Nat) : Int) ≤ x.2.1.2.2.2.1))) then
          (bif (decide ((x.2.1.2.2.2.1 < x.1.2.2.2.2.2.2.2.2.1))) then
            (some ((((0 : Int), (0 : Int), (0 : Int), (0 : Int), (0 : Int), false, ((0 : Int), ((0 : Int), (0 : Int), ([] : List Int), ()), ()), ()), (7 : Int), ()), x.1, ()))
            else bif (decide ((x.2.1.2.2.2.1 ≥ (100 : Int)))) then
              (some ((((0 : Int), (0 : Int), (0 : Int), (0 : Int), (0 : Int), false, ((0 : Int), ((0 : Int), (0 : Int), ([] : List Int), ()), ()), ()), (2 : Int), ()), x.1, ()))
              else bif (decide (((0 : Int) ≤ x.2.1.2.2.2.1))) then
                (bif (decide ((x.2.1.2.2.2.1 ≤ (((List.length x.1.2.2.2.2.1) : Nat) : Int)))) then
                  (bif (decide (((0 : Int) ≤ x.2.1.2.2.2.1))) then
                    (bif (Go.Dn.roomy ((List.length ([] : List (Int × ((Int × (Int × ((List Int) × Unit))) × Unit)))) + (List.length (Go.Dn.cutL x.1.2.2.2.2.1 (0 : Int) (x.2.1.2.2.2.1 - (0 : Int))))) 48) then
                      (Go.Dn.share (([] : List (Int × ((Int × (Int × ((List Int) × Unit))) × Unit))) ++ (Go.Dn.cutL x.1.2.2.2.2.1 (0 : Int) (x.2.1.2.2.2.1 - (0 : Int)))) fun s3 =>
                        (spec_l12CopyEntry.F k x.2.1.2.2.2.2.2.2).bind fun y4 =>
                        bif (Go.Dn.roomy ((List.length s3) + (List.length [y4.1.1])) 48) then
                        (Go.Dn.share (s3 ++ [y4.1.1]) fun s5 =>
                          (spec_l1Min.F k (x.1.2.2.2.2.2.1, x.2.1.2.2.2.1, ())).bind fun y6 =>
                          (spec_l1Min.F k (x.1.2.2.2.2.2.2.1, x.2.1.2.2.2.1, ())).bind fun y7 =>
                          (spec_l1Max.F k (y7.1.1, (IntKind.wrap .i64 (x.2.1.2.2.2.1 + (1 : Int))), ())).bind fun y8 =>
                          (spec_l1Min.F k (y8.1.1, y6.1)).bind fun y9 =>
                          (spec_l12Taken.F k ((x.1.1, x.1.2.1, x.1.2.2.1, x.1.2.2.2.1, s5, y6.1.1, y8.1.1, x.1.2.2.2.2.2.2.2), y9.1)).bind fun y10 =>
                          some ((y10.1.1, (0 : Int), ()), (x.1.1, x.1.2.1, x.1.2.2.1, x.1.2.2.2.1, s5, y6.1.1, y8.1.1, x.1.2.2.2.2.2.2.2), ()))
                        else none)
                      else none)
                    else none)
                  else none)
                else none)
          else bif (Go.Dn.inB x.2.1.2.2.2.1 (((List.length x.1.2.2.2.2.1) : Nat) : Int)) then
            (bif ((List.getD x.1.2.2.2.2.1 (Int.toNat x.2.1.2.2.2.1) ((0 : Int), (((0 : Int), ((0 : Int), (([] : List Int), ()))), ()))).1 != x.2.1.2.2.2.2.2.2.1.1) then
              (bif (decide ((x.2.1.2.2.2.1 < x.1.2.2.2.2.2.2.2.2.1))) then
                (some ((((0 : Int), (0 : Int), (0 : Int), (0 : Int), (0 : Int), false, ((0 : Int), ((0 : Int), (0 : Int), ([] : List Int), ()), ()), ()), (7 : Int), ()), x.1, ()))
                else bif (decide ((x.2.1.2.2.2.1 ≥ (100 : Int)))) then
                  (some ((((0 : Int), (0 : Int), (0 : Int), (0 : Int), (0 : Int), false, ((0 : Int), ((0 : Int), (0 : Int), ([] : List Int), ()), ()), ()), (2 : Int), ()), x.1, ()))
                  else bif (decide (((0 : Int) ≤ x.2.1.2.2.2.1))) then
                    (bif (decide ((x.2.1.2.2.2.1 ≤ (((List.length x.1.2.2.2.2.1) : Nat) : Int)))) then
                      (bif (decide (((0 : Int) ≤ x.2.1.2.2.2.1))) then
                        (bif (Go.Dn.roomy ((List.length ([] : List (Int × ((Int × (Int × ((List Int) × Unit))) × Unit)))) + (List.length (Go.Dn.cutL x.1.2.2.2.2.1 (0 : Int) (x.2.1.2.2.2.1 - (0 : Int))))) 48) then
                          (Go.Dn.share (([] : List (Int × ((Int × (Int × ((List Int) × Unit))) × Unit))) ++ (Go.Dn.cutL x.1.2.2.2.2.1 (0 : Int) (x.2.1.2.2.2.1 - (0 : Int)))) fun s11 =>
                            (spec_l12CopyEntry.F k x.2.1.2.2.2.2.2.2).bind fun y12 =>
                            bif (Go.Dn.roomy ((List.length s11) + (List.length [y12.1.1])) 48) then
                            (Go.Dn.share (s11 ++ [y12.1.1]) fun s13 =>
                              (spec_l1Min.F k (x.1.2.2.2.2.2.1, x.2.1.2.2.2.1, ())).bind fun y14 =>
                              (spec_l1Min.F k (x.1.2.2.2.2.2.2.1, x.2.1.2.2.2.1, ())).bind fun y15 =>
                              (spec_l1Max.F k (y15.1.1, (IntKind.wrap .i64 (x.2.1.2.2.2.1 + (1 : Int))), ())).bind fun y16 =>
                              (spec_l1Min.F k (y16.1.1, y14.1)).bind fun y17 =>
                              (spec_l12Taken.F k ((x.1.1, x.1.2.1, x.1.2.2.1, x.1.2.2.2.1, s13, y14.1.1, y16.1.1, x.1.2.2.2.2.2.2.2), y17.1)).bind fun y18 =>
                              some ((y18.1.1, (0 : Int), ()), (x.1.1, x.1.2.1, x.1.2.2.1, x.1.2.2.2.1, s13, y14.1.1, y16.1.1, x.1.2.2.2.2.2.2.2), ()))
                            else none)
                          else none)
                        else none)
                      else none)
                    else none)
              else (spec_l1Max.F k (x.1.2.2.2.2.2.2.1, (IntKind.wrap .i64 (x.2.1.2.2.2.1 + (1 : Int))), ())).bind fun y19 =>
                (spec_l1Min.F k (y19.1.1, x.1.2.2.2.2.2.1, ())).bind fun y20 =>
                (spec_l12Taken.F k ((x.1.1, x.1.2.1, x.1.2.2.1, x.1.2.2.2.1, x.1.2.2.2.2.1, x.1.2.2.2.2.2.1, y19.1.1, x.1.2.2.2.2.2.2.2), y20.1)).bind fun y21 =>
                some ((y21.1.1, (0 : Int), ()), (x.1.1, x.1.2.1, x.1.2.2.1, x.1.2.2.2.1, x.1.2.2.2.2.1, x.1.2.2.2.2.2.1, y19.1.1, x.1.2.2.2.2.2.2.2), ()))
            else none)
        else (spec_l1Max.F k (x.1.2.2.2.2.2.2.1, x.2.1.2.2.2.1, ())).bind fun y22 =>
          (spec_l1Min.F k (y22.1.1, x.1.2.2.2.2.2.1, ())).bind fun y23 =>
          (spec_l12Taken.F k ((x.1.1, x.1.2.1, x.1.2.2.1, x.1.2.2.2.1, x.1.2.2.2.2.1, x.1.2.2.2.2.2.1, y22.1.1, x.1.2.2.2.2.2.2.2), y23.1)).bind fun y24 =>
          some ((y24.1.1, (0 : Int), ()), (x.1.1, x.1.2.1, x.1.2.2.1, x.1.2.2.2.1, x.1.2.2.2.2.1, x.1.2.2.2.2.2.1, y22.1.1, x.1.2.2.2.2.2.2.2), ())
def spec_l12Append.hd : Hints := ⟨[], [], [4, 5], [0, 1, 3, 4, 6, 7], [(4, [0, 0, 2, 7, 15, 31, 31, 95, 255, 31, 543, 2047, 4095]), (9, [0, 0, 2, 7, 15, 31, 63, 127, 255, 31, 543, 2047, 4095, 8191, 31, 16415, 49183, 131071, 262143]), (10, [0, 1, 0, 4, 12, 28, 63]), (14, [0, 0, 0, 4, 12, 28, 0, 64, 252, 510, 0, 1024, 4094, 8190, 16382, 32767, 65535, 131071]), (15, [0, 0, 2, 6, 14, 0, 32, 126, 255, 511, 1023]), (16, [0, 0, 2, 6, 14, 0, 32, 126, 255, 511, 1023]), (18, [0, 0, 2, 6, 14, 0, 32, 96, 224, 510, 1023, 2047, 4095])]⟩
def spec_l12Append.lps (k : Nat) : List (Nat × Lp spec_l12Append.sg.Out) := []
theorem spec_l12Append.loops (k : Nat) : LoopsOk spec_l12Append.E k spec_l12Append.hd (spec_l12Append.lps k) (loopsOf (Go.Proofs.Try.f216.body.getD .skip)) := trivial
theorem spec_l12Append.den (k : Nat) (x : Sig.In spec_l12Append.sg.ps) : denFn spec_l12Append.E k Go.Proofs.Try.f216 spec_l12Append.sg spec_l12Append.hd (runL k spec_l12Append.hd (spec_l12Append.lps k)) x = spec_l12Append.F k x := by kernel_rfl
theorem spec_l12Append.ok (k : Nat) : Contract Try.prog 216 spec_l12Append.sg (spec_l12Append.F k) := ok_of (E := spec_l12Append.E) (tysOk _ _) (eqsOk _) ⟨spec_l1Max.ok k, spec_l1Min.ok k, spec_l12CopyEntry.ok k, spec_l12Prev.ok k, spec_l12Taken.ok k, trivial⟩ Try.func216 rfl (by kernel_rfl) (spec_l12Append.loops k) (spec_l12Append.den k)
def spec_l12Hear.sg : Sig := ⟨[.b kNode, .b kMail], [(kNodeResult, .fl)]⟩
def spec_l12Hear.E : Env := ⟨tys, bys, [(98, ⟨spec_l12Bad.sg, spec_l12Bad.F⟩), (214, ⟨spec_l12Copy.sg, spec_l12Copy.F⟩), (215, ⟨spec_l12Agree.sg, spec_l12Agree.F⟩), (216, ⟨spec_l12Append.sg, spec_l12Append.F⟩)], eqs⟩
def spec_l12Hear.F (k : Nat) (x : ((Int × (Bool × (Int × (Int × ((List (Int × ((Int × (Int × ((List Int) × Unit))) × Unit))) × (Int × (Int × (Int × (Int × Unit))))))))) × ((Int × (Int × (Int × (Int × (Int × (Bool × ((Int × ((Int × (Int × ((List Int) × Unit))) × Unit)) × Unit))))))) × Unit))) : Option (((Int × ((Int × (Bool × (Int × (Int × ((List (Int × ((Int × (Int × ((List Int) × Unit))) × Unit))) × (Int × (Int × (Int × (Int × Unit))))))))) × ((List (Int × (Int × (Int × (Int × (Int × (Bool × ((Int × ((Int × (Int × ((List Int) × Unit))) × Unit)) × Unit)))))))) × Unit))) × Unit) × Unit) :=
  (spec_l12Copy.F k (x.1, ())).bind fun y0 =>
  bif (decide ((x.2.1.2.2.1 < y0.1.1.2.2.2.1))) then
  (some ((((0 : Int), y0.1.1, ([] : List (Int × (Int × (Int × (Int × (Int × (Bool × ((Int × ((Int × (Int × ((List Int) × Unit))) × Unit)) × Unit)))))))), ()), ()), ()))
  else bif (decide ((x.2.1.2.2.1 > y0.1.1.2.2.2.1))) then
    (bif (x.2.1.1 == (2 : Int)) then
      (some ((((0 : Int), (y0.1.1.1, y0.1.1.2.1, (0 : Int), x.2.1.2.2.1, y0.1.1.2.2.2.2.1, y0.1.1.2.2.2.2.2.1, (0 : Int), (0 : Int), y0.1.1.2.2.2.2.2.2.2.2), ([] : List (Int × (Int × (Int × (Int × (Int × (Bool × ((Int × ((Int × (Int × ((List Int) × Unit))) × Unit)) × Unit)))))))), ()), ()), ()))
      else (spec_l12Append.F k ((y0.1.1.1, y0.1.1.2.1, (0 : Int), x.2.1.2.2.1, y0.1.1.2.2.2.2.1, y0.1.1.2.2.2.2.2.1, (0 : Int), (0 : Int), y0.1.1.2.2.2.2.2.2.2.2), x.2)).bind fun y1 =>
        bif (y1.1.2.1 != (0 : Int)) then
        ((spec_l12Bad.F k y1.1.2).bind fun y2 =>
          some y2)
        else Go.Dn.share (([] : List (Int × (Int × (Int × (Int × (Int × (Bool × ((Int × ((Int × (Int × ((List Int) × Unit))) × Unit)) × Unit)))))))) ++ [y1.1.1]) fun s3 =>
          some ((((0 : Int), y1.2.1, s3, ()), ()), ()))
    else bif (x.2.1.1 == (2 : Int)) then
      (bif (y0.1.1.2.2.1 == (1 : Int)) then
        (bif (decide ((x.2.1.2.2.2.1 > y0.1.1.2.2.2.2.2.2.2.1))) then
          (bif (decide ((x.2.1.2.2.2.1 ≤ (((List.length y0.1.1.2.2.2.2.1) : Nat) : Int)))) then
            ((spec_l12Agree.F k ((y0.1.1.1, y0.1.1.2.1, y0.1.1.2.2.1, y0.1.1.2.2.2.1, y0.1.1.2.2.2.2.1, y0.1.1.2.2.2.2.2.1, y0.1.1.2.2.2.2.2.2.1, x.2.1.2.2.2.1, y0.1.1.2.2.2.2.2.2.2.2), ())).bind fun y4 =>
              some ((((0 : Int), y4.2.1, ([] : List (Int × (Int × (Int × (Int × (Int × (Bool × ((Int × ((Int × (Int × ((List Int) × Unit))) × Unit)) × Unit)))))))), ()), ()), ()))
            else (spec_l12Agree.F k y0.1).bind fun y5 =>
              some ((((0 : Int), y5.2.1, ([] : List (Int × (Int × (Int × (Int × (Int × (Bool × ((Int × ((Int × (Int × ((List Int) × Unit))) × Unit)) × Unit)))))))), ()), ()), ()))
          else (spec_l12Agree.F k y0.1).bind fun y6 =>
            some ((((0 : Int), y6.2.1, ([] : List (Int × (Int × (Int × (Int × (Int × (Bool × ((Int × ((Int × (Int × ((List Int) × Unit))) × Unit)) × Unit)))))))), ()), ()), ()))
        else some ((((0 : Int), y0.1.1, ([] : List (Int × (Int × (Int × (Int × (Int × (Bool × ((Int × ((Int × (Int × ((List Int) × Unit))) × Unit)) × Unit)))))))), ()), ()), ()))
      else (spec_l12Append.F k (y0.1.1, x.2)).bind fun y7 =>
        bif (y7.1.2.1 != (0 : Int)) then
        ((spec_l12Bad.F k y7.1.2).bind fun y8 =>
          some y8)
        else Go.Dn.share (([] : List (Int × (Int × (Int × (Int × (Int × (Bool × ((Int × ((Int × (Int × ((List Int) × Unit))) × Unit)) × Unit)))))))) ++ [y7.1.1]) fun s9 =>
          some ((((0 : Int), y7.2.1, s9, ()), ()), ())
def spec_l12Hear.hd : Hints := ⟨[], [], [4], [0, 1, 2, 3, 4, 5, 6, 7, 8], [(3, [0, 1, 0, 4, 12, 28, 63]), (5, [0, 1, 0, 4, 12, 28, 63]), (12, [0, 1, 0, 4, 12, 28, 63, 127, 255, 511, 255, 1279, 3327, 7423, 15615, 32767, 65535])]⟩
def spec_l12Hear.lps (k : Nat) : List (Nat × Lp spec_l12Hear.sg.Out) := []
theorem spec_l12Hear.loops (k : Nat) : LoopsOk spec_l12Hear.E k spec_l12Hear.hd (spec_l12Hear.lps k) (loopsOf (Go.Proofs.Try.f100.body.getD .skip)) := trivial
theorem spec_l12Hear.den (k : Nat) (x : Sig.In spec_l12Hear.sg.ps) : denFn spec_l12Hear.E k Go.Proofs.Try.f100 spec_l12Hear.sg spec_l12Hear.hd (runL k spec_l12Hear.hd (spec_l12Hear.lps k)) x = spec_l12Hear.F k x := by kernel_rfl
theorem spec_l12Hear.ok (k : Nat) : Contract Try.prog 100 spec_l12Hear.sg (spec_l12Hear.F k) := ok_of (E := spec_l12Hear.E) (tysOk _ _) (eqsOk _) ⟨spec_l12Bad.ok k, spec_l12Copy.ok k, spec_l12Agree.ok k, spec_l12Append.ok k, trivial⟩ Try.func100 rfl (by kernel_rfl) (spec_l12Hear.loops k) (spec_l12Hear.den k)
def spec_HearMail.sg : Sig := ⟨[.b kNode, .b kMail], [(kNodeResult, .fl)]⟩
def spec_HearMail.E : Env := ⟨tys, bys, [(97, ⟨spec_l12Asked.sg, spec_l12Asked.F⟩), (98, ⟨spec_l12Bad.sg, spec_l12Bad.F⟩), (99, ⟨spec_l12Mail.sg, spec_l12Mail.F⟩), (100, ⟨spec_l12Hear.sg, spec_l12Hear.F⟩)], eqs⟩
def spec_HearMail.F (k : Nat) (x : ((Int × (Bool × (Int × (Int × ((List (Int × ((Int × (Int × ((List Int) × Unit))) × Unit))) × (Int × (Int × (Int × (Int × Unit))))))))) × ((Int × (Int × (Int × (Int × (Int × (Bool × ((Int × ((Int × (Int × ((List Int) × Unit))) × Unit)) × Unit))))))) × Unit))) : Option (((Int × ((Int × (Bool × (Int × (Int × ((List (Int × ((Int × (Int × ((List Int) × Unit))) × Unit))) × (Int × (Int × (Int × (Int × Unit))))))))) × ((List (Int × (Int × (Int × (Int × (Int × (Bool × ((Int × ((Int × (Int × ((List Int) × Unit))) × Unit)) × Unit)))))))) × Unit))) × Unit) × Unit) :=
  (spec_l12Asked.F k (x.1, ())).bind fun y0 =>
  bif (y0.1.1 != (0 : Int)) then
  ((spec_l12Bad.F k y0.1).bind fun y1 =>
    some y1)
  else (spec_l12Mail.F k x).bind fun y2 =>
    bif (y2.1.1 != (0 : Int)) then
    ((spec_l12Bad.F k y2.1).bind fun y3 =>
      some y3)
    else (spec_l12Hear.F k x).bind fun y4 =>
      some y4
def spec_HearMail.hd : Hints := ⟨[], [], [4], [0, 1, 2, 3, 4, 5, 6], []⟩
def spec_HearMail.lps (k : Nat) : List (Nat × Lp spec_HearMail.sg.Out) := []
theorem spec_HearMail.loops (k : Nat) : LoopsOk spec_HearMail.E k spec_HearMail.hd (spec_HearMail.lps k) (loopsOf (Go.Proofs.Try.f21.body.getD .skip)) := trivial
theorem spec_HearMail.den (k : Nat) (x : Sig.In spec_HearMail.sg.ps) : denFn spec_HearMail.E k Go.Proofs.Try.f21 spec_HearMail.sg spec_HearMail.hd (runL k spec_HearMail.hd (spec_HearMail.lps k)) x = spec_HearMail.F k x := by kernel_rfl
theorem spec_HearMail.ok (k : Nat) : Contract Try.prog 21 spec_HearMail.sg (spec_HearMail.F k) := ok_of (E := spec_HearMail.E) (tysOk _ _) (eqsOk _) ⟨spec_l12Asked.ok k, spec_l12Bad.ok k, spec_l12Mail.ok k, spec_l12Hear.ok k, trivial⟩ Try.func21 rfl (by kernel_rfl) (spec_HearMail.loops k) (spec_HearMail.den k)
def laws_szByteS.sg : Sig := ⟨[.b (.sl (.int .u8)), .b (.int .i64)], [((.int .i64), .rd)]⟩
def laws_szByteS.E : Env := ⟨tys, bys, [], eqs⟩
def laws_szByteS.F (k : Nat) (x : ((List Int) × (Int × Unit))) : Option ((Int × Unit) × Unit) :=
  bif (decide (((IntKind.wrap .i64 (x.2.1 - (((List.length x.1) : Nat) : Int))) < (0 : Int)))) then
  (some (((-(1 : Int)), ()), ()))
  else some (((IntKind.wrap .i64 (x.2.1 - (((List.length x.1) : Nat) : Int))), ()), ())
def laws_szByteS.hd : Hints := ⟨[], [], [4], [0, 1], []⟩
def laws_szByteS.lps (k : Nat) : List (Nat × Lp laws_szByteS.sg.Out) := []
theorem laws_szByteS.loops (k : Nat) : LoopsOk laws_szByteS.E k laws_szByteS.hd (laws_szByteS.lps k) (loopsOf (Go.Proofs.Try.f301.body.getD .skip)) := trivial
theorem laws_szByteS.den (k : Nat) (x : Sig.In laws_szByteS.sg.ps) : denFn laws_szByteS.E k Go.Proofs.Try.f301 laws_szByteS.sg laws_szByteS.hd (runL k laws_szByteS.hd (laws_szByteS.lps k)) x = laws_szByteS.F k x := by kernel_rfl
theorem laws_szByteS.ok (k : Nat) : Contract Try.prog 301 laws_szByteS.sg (laws_szByteS.F k) := ok_of (E := laws_szByteS.E) (tysOk _ _) (eqsOk _) trivial Try.func301 rfl (by kernel_rfl) (laws_szByteS.loops k) (laws_szByteS.den k)
def laws_szEvent.sg : Sig := ⟨[.b kEvent, .b (.int .i64)], [((.int .i64), .rd)]⟩
def laws_szEvent.E : Env := ⟨tys, bys, [(301, ⟨laws_szByteS.sg, laws_szByteS.F⟩)], eqs⟩
def laws_szEvent.F (k : Nat) (x : ((Int × (Int × ((List Int) × Unit))) × (Int × Unit))) : Option ((Int × Unit) × Unit) :=
  (laws_szByteS.F k (x.1.2.2.1, x.2)).bind fun y0 =>
  bif (decide ((y0.1.1 < (0 : Int)))) then
  (some (((-(1 : Int)), ()), ()))
  else some y0
def laws_szEvent.hd : Hints := ⟨[], [], [4], [0, 1, 2], []⟩
def laws_szEvent.lps (k : Nat) : List (Nat × Lp laws_szEvent.sg.Out) := []
theorem laws_szEvent.loops (k : Nat) : LoopsOk laws_szEvent.E k laws_szEvent.hd (laws_szEvent.lps k) (loopsOf (Go.Proofs.Try.f237.body.getD .skip)) := trivial
theorem laws_szEvent.den (k : Nat) (x : Sig.In laws_szEvent.sg.ps) : denFn laws_szEvent.E k Go.Proofs.Try.f237 laws_szEvent.sg laws_szEvent.hd (runL k laws_szEvent.hd (laws_szEvent.lps k)) x = laws_szEvent.F k x := by kernel_rfl
theorem laws_szEvent.ok (k : Nat) : Contract Try.prog 237 laws_szEvent.sg (laws_szEvent.F k) := ok_of (E := laws_szEvent.E) (tysOk _ _) (eqsOk _) ⟨laws_szByteS.ok k, trivial⟩ Try.func237 rfl (by kernel_rfl) (laws_szEvent.loops k) (laws_szEvent.den k)
def laws_szEntry.sg : Sig := ⟨[.b kEntry, .b (.int .i64)], [((.int .i64), .rd)]⟩
def laws_szEntry.E : Env := ⟨tys, bys, [(237, ⟨laws_szEvent.sg, laws_szEvent.F⟩)], eqs⟩
def laws_szEntry.F (k : Nat) (x : ((Int × ((Int × (Int × ((List Int) × Unit))) × Unit)) × (Int × Unit))) : Option ((Int × Unit) × Unit) :=
  (laws_szEvent.F k (x.1.2.1, x.2)).bind fun y0 =>
  bif (decide ((y0.1.1 < (0 : Int)))) then
  (some (((-(1 : Int)), ()), ()))
  else some y0
def laws_szEntry.hd : Hints := ⟨[], [], [4], [0, 1, 2], []⟩
def laws_szEntry.lps (k : Nat) : List (Nat × Lp laws_szEntry.sg.Out) := []
theorem laws_szEntry.loops (k : Nat) : LoopsOk laws_szEntry.E k laws_szEntry.hd (laws_szEntry.lps k) (loopsOf (Go.Proofs.Try.f127.body.getD .skip)) := trivial
theorem laws_szEntry.den (k : Nat) (x : Sig.In laws_szEntry.sg.ps) : denFn laws_szEntry.E k Go.Proofs.Try.f127 laws_szEntry.sg laws_szEntry.hd (runL k laws_szEntry.hd (laws_szEntry.lps k)) x = laws_szEntry.F k x := by kernel_rfl
theorem laws_szEntry.ok (k : Nat) : Contract Try.prog 127 laws_szEntry.sg (laws_szEntry.F k) := ok_of (E := laws_szEntry.E) (tysOk _ _) (eqsOk _) ⟨laws_szEvent.ok k, trivial⟩ Try.func127 rfl (by kernel_rfl) (laws_szEntry.loops k) (laws_szEntry.den k)
def laws_szEntryS.sg : Sig := ⟨[.b (.sl kEntry), .b (.int .i64)], [((.int .i64), .rd)]⟩
def laws_szEntryS.E : Env := ⟨tys, bys, [(127, ⟨laws_szEntry.sg, laws_szEntry.F⟩)], eqs⟩
def laws_szEntryS.l5 {ρ : Type} (k : Nat) (c0 : (Int × Unit) → Option ρ) (c1 : (Int × Unit) → Option ρ) : Nat → List (Int × ((Int × (Int × ((List Int) × Unit))) × Unit)) → Int → Int → Option ρ
  | 0 => fun _ _ _ => none
  | n + 1 => fun x0 x1 x2 => 
    bif (decide ((x2 < (((List.length x0) : Nat) : Int)))) then
    (bif (Go.Dn.inB x2 (((List.length x0) : Nat) : Int)) then
      (Go.Dn.share (List.getD x0 (Int.toNat x2) ((0 : Int), (((0 : Int), ((0 : Int), (([] : List Int), ()))), ()))) fun s0 =>
        (laws_szEntry.F k (s0, x1, ())).bind fun y1 =>
        bif (decide ((y1.1.1 < (0 : Int)))) then
        (c0 ((-(1 : Int)), ()))
        else laws_szEntryS.l5 k c0 c1 n x0 y1.1.1 (IntKind.wrap .i64 (x2 + (1 : Int))))
      else none)
    else c1 (x1, ())
def laws_szEntryS.F (k : Nat) (x : ((List (Int × ((Int × (Int × ((List Int) × Unit))) × Unit))) × (Int × Unit))) : Option ((Int × Unit) × Unit) :=
  bif (decide (((IntKind.wrap .i64 (x.2.1 - (((List.length x.1) : Nat) : Int))) < (0 : Int)))) then
  (some (((-(1 : Int)), ()), ()))
  else laws_szEntryS.l5 k (fun e2 =>
      some (e2, ())) (fun e3 =>
      some (e3, ())) k x.1 (IntKind.wrap .i64 (x.2.1 - (((List.length x.1) : Nat) : Int))) (0 : Int)
def laws_szEntryS.hd : Hints := ⟨[(5, ⟨[0, 1, 5], []⟩)], [(0, [1]), (1, [0, 1, 5])], [4], [0, 1, 5], []⟩
def laws_szEntryS.lps (k : Nat) : List (Nat × Lp laws_szEntryS.sg.Out) := [(5, ⟨[.l kEntry, .i, .i], fun x => (fun x0 x1 x2 => ⟨[(0, .v false [.fz kEntry x0]), (1, .v false [.int .i64 x1]), (5, .v false [.int .i64 x2])], [], []⟩) x.1 x.2.1 x.2.2.1, fun C n x => laws_szEntryS.l5 k (fun y => C .ret ((fun y0 => ⟨[(4, .v false [.int .i64 y0])], [], []⟩) y.1)) (fun y => C (.exit 0) ((fun y0 => ⟨[(1, .v false [.int .i64 y0])], [], []⟩) y.1)) n x.1 x.2.1 x.2.2.1⟩)]
theorem laws_szEntryS.loops (k : Nat) : LoopsOk laws_szEntryS.E k laws_szEntryS.hd (laws_szEntryS.lps k) (loopsOf (Go.Proofs.Try.f126.body.getD .skip)) := ⟨⟨fun _ _ => rfl, fun _ _ _ => by kernel_rfl, fun _ => ⟨rfl, rfl⟩⟩, trivial⟩
theorem laws_szEntryS.den (k : Nat) (x : Sig.In laws_szEntryS.sg.ps) : denFn laws_szEntryS.E k Go.Proofs.Try.f126 laws_szEntryS.sg laws_szEntryS.hd (runL k laws_szEntryS.hd (laws_szEntryS.lps k)) x = laws_szEntryS.F k x := by kernel_rfl
theorem laws_szEntryS.ok (k : Nat) : Contract Try.prog 126 laws_szEntryS.sg (laws_szEntryS.F k) := ok_of (E := laws_szEntryS.E) (tysOk _ _) (eqsOk _) ⟨laws_szEntry.ok k, trivial⟩ Try.func126 rfl (by kernel_rfl) (laws_szEntryS.loops k) (laws_szEntryS.den k)
def laws_szNode.sg : Sig := ⟨[.b kNode, .b (.int .i64)], [((.int .i64), .rd)]⟩
def laws_szNode.E : Env := ⟨tys, bys, [(126, ⟨laws_szEntryS.sg, laws_szEntryS.F⟩)], eqs⟩
def laws_szNode.F (k : Nat) (x : ((Int × (Bool × (Int × (Int × ((List (Int × ((Int × (Int × ((List Int) × Unit))) × Unit))) × (Int × (Int × (Int × (Int × Unit))))))))) × (Int × Unit))) : Option ((Int × Unit) × Unit) :=
  (laws_szEntryS.F k (x.1.2.2.2.2.1, x.2)).bind fun y0 =>
  bif (decide ((y0.1.1 < (0 : Int)))) then
  (some (((-(1 : Int)), ()), ()))
  else some y0
def laws_szNode.hd : Hints := ⟨[], [], [4], [0, 1, 2], []⟩
def laws_szNode.lps (k : Nat) : List (Nat × Lp laws_szNode.sg.Out) := []
theorem laws_szNode.loops (k : Nat) : LoopsOk laws_szNode.E k laws_szNode.hd (laws_szNode.lps k) (loopsOf (Go.Proofs.Try.f30.body.getD .skip)) := trivial
theorem laws_szNode.den (k : Nat) (x : Sig.In laws_szNode.sg.ps) : denFn laws_szNode.E k Go.Proofs.Try.f30 laws_szNode.sg laws_szNode.hd (runL k laws_szNode.hd (laws_szNode.lps k)) x = laws_szNode.F k x := by kernel_rfl
theorem laws_szNode.ok (k : Nat) : Contract Try.prog 30 laws_szNode.sg (laws_szNode.F k) := ok_of (E := laws_szNode.E) (tysOk _ _) (eqsOk _) ⟨laws_szEntryS.ok k, trivial⟩ Try.func30 rfl (by kernel_rfl) (laws_szNode.loops k) (laws_szNode.den k)
def laws_szMail.sg : Sig := ⟨[.b kMail, .b (.int .i64)], [((.int .i64), .rd)]⟩
def laws_szMail.E : Env := ⟨tys, bys, [(127, ⟨laws_szEntry.sg, laws_szEntry.F⟩)], eqs⟩
def laws_szMail.F (k : Nat) (x : ((Int × (Int × (Int × (Int × (Int × (Bool × ((Int × ((Int × (Int × ((List Int) × Unit))) × Unit)) × Unit))))))) × (Int × Unit))) : Option ((Int × Unit) × Unit) :=
  (laws_szEntry.F k (x.1.2.2.2.2.2.2.1, x.2)).bind fun y0 =>
  bif (decide ((y0.1.1 < (0 : Int)))) then
  (some (((-(1 : Int)), ()), ()))
  else some y0
def laws_szMail.hd : Hints := ⟨[], [], [4], [0, 1, 2], []⟩
def laws_szMail.lps (k : Nat) : List (Nat × Lp laws_szMail.sg.Out) := []
theorem laws_szMail.loops (k : Nat) : LoopsOk laws_szMail.E k laws_szMail.hd (laws_szMail.lps k) (loopsOf (Go.Proofs.Try.f31.body.getD .skip)) := trivial
theorem laws_szMail.den (k : Nat) (x : Sig.In laws_szMail.sg.ps) : denFn laws_szMail.E k Go.Proofs.Try.f31 laws_szMail.sg laws_szMail.hd (runL k laws_szMail.hd (laws_szMail.lps k)) x = laws_szMail.F k x := by kernel_rfl
theorem laws_szMail.ok (k : Nat) : Contract Try.prog 31 laws_szMail.sg (laws_szMail.F k) := ok_of (E := laws_szMail.E) (tysOk _ _) (eqsOk _) ⟨laws_szEntry.ok k, trivial⟩ Try.func31 rfl (by kernel_rfl) (laws_szMail.loops k) (laws_szMail.den k)
def laws_toByteS.sg : Sig := ⟨[.b (.sl (.int .u8))], [((.sl (.int .u8)), .dp)]⟩
def laws_toByteS.E : Env := ⟨tys, bys, [], eqs⟩
def laws_toByteS.l3 {ρ : Type} (k : Nat) (c0 : (List Int × Unit) → Option ρ) : Nat → List Int → Int → List Int → Option ρ
  | 0 => fun _ _ _ => none
  | n + 1 => fun x0 x1 x2 => 
    bif (decide ((x1 < (((List.length x0) : Nat) : Int)))) then
    (bif (Go.Dn.inB x1 (((List.length x0) : Nat) : Int)) then
      (Go.Dn.share (List.getD x0 (Int.toNat x1) (0 : Int)) fun s0 =>
        bif (Go.Dn.inB x1 (((List.length x2) : Nat) : Int)) then
        (Go.Dn.share (List.set x2 (Int.toNat x1) s0) fun s1 =>
          laws_toByteS.l3 k c0 n x0 (IntKind.wrap .i64 (x1 + (1 : Int))) s1)
        else none)
      else none)
    else c0 (x2, ())
def laws_toByteS.F (k : Nat) (x : ((List Int) × Unit)) : Option (((List Int) × Unit) × Unit) :=
  bif (decide (((((List.length x.1) : Nat) : Int) ≤ (((List.length x.1) : Nat) : Int)))) then
  (bif (Go.Dn.roomy (Int.toNat (((List.length x.1) : Nat) : Int)) 1) then
    (laws_toByteS.l3 k (fun e2 =>
        some (e2, ())) k x.1 (0 : Int) (List.replicate (Int.toNat (((List.length x.1) : Nat) : Int)) (0 : Int)))
    else none)
  else none
def laws_toByteS.hd : Hints := ⟨[(3, ⟨[0, 3, 4], []⟩)], [(0, [3]), (1, [0, 3, 4])], [2], [0, 3, 4], []⟩
def laws_toByteS.lps (k : Nat) : List (Nat × Lp laws_toByteS.sg.Out) := [(3, ⟨[.l (.int .u8), .i, .l (.int .u8)], fun x => (fun x0 x1 x2 => ⟨[(0, .v false [.fz (.int .u8) x0]), (3, .v false [.arr 0]), (4, .v false [.int .i64 x1])], [(0, .arr (.int .u8) true false x2)], []⟩) x.1 x.2.1 x.2.2.1, fun C n x => laws_toByteS.l3 k (fun y => C (.exit 0) ((fun y0 => ⟨[(3, .v false [.arr 0])], [(0, .arr (.int .u8) true false y0)], []⟩) y.1)) n x.1 x.2.1 x.2.2.1⟩)]
theorem laws_toByteS.loops (k : Nat) : LoopsOk laws_toByteS.E k laws_toByteS.hd (laws_toByteS.lps k) (loopsOf (Go.Proofs.Try.f302.body.getD .skip)) := ⟨⟨fun _ _ => rfl, fun _ _ _ => by kernel_rfl, fun _ => ⟨rfl, rfl⟩⟩, trivial⟩
theorem laws_toByteS.den (k : Nat) (x : Sig.In laws_toByteS.sg.ps) : denFn laws_toByteS.E k Go.Proofs.Try.f302 laws_toByteS.sg laws_toByteS.hd (runL k laws_toByteS.hd (laws_toByteS.lps k)) x = laws_toByteS.F k x := by kernel_rfl
theorem laws_toByteS.ok (k : Nat) : Contract Try.prog 302 laws_toByteS.sg (laws_toByteS.F k) := ok_of (E := laws_toByteS.E) (tysOk _ _) (eqsOk _) trivial Try.func302 rfl (by kernel_rfl) (laws_toByteS.loops k) (laws_toByteS.den k)
def laws_toEvent.sg : Sig := ⟨[.b kEvent], [(kEvent, .dp)]⟩
def laws_toEvent.E : Env := ⟨tys, bys, [(302, ⟨laws_toByteS.sg, laws_toByteS.F⟩)], eqs⟩
def laws_toEvent.F (k : Nat) (x : ((Int × (Int × ((List Int) × Unit))) × Unit)) : Option (((Int × (Int × ((List Int) × Unit))) × Unit) × Unit) :=
  (laws_toByteS.F k x.1.2.2).bind fun y0 =>
  some (((x.1.1, x.1.2.1, y0.1), ()), ())
def laws_toEvent.hd : Hints := ⟨[], [], [2], [0, 1, 2, 3], []⟩
def laws_toEvent.lps (k : Nat) : List (Nat × Lp laws_toEvent.sg.Out) := []
theorem laws_toEvent.loops (k : Nat) : LoopsOk laws_toEvent.E k laws_toEvent.hd (laws_toEvent.lps k) (loopsOf (Go.Proofs.Try.f238.body.getD .skip)) := trivial
theorem laws_toEvent.den (k : Nat) (x : Sig.In laws_toEvent.sg.ps) : denFn laws_toEvent.E k Go.Proofs.Try.f238 laws_toEvent.sg laws_toEvent.hd (runL k laws_toEvent.hd (laws_toEvent.lps k)) x = laws_toEvent.F k x := by kernel_rfl
theorem laws_toEvent.ok (k : Nat) : Contract Try.prog 238 laws_toEvent.sg (laws_toEvent.F k) := ok_of (E := laws_toEvent.E) (tysOk _ _) (eqsOk _) ⟨laws_toByteS.ok k, trivial⟩ Try.func238 rfl (by kernel_rfl) (laws_toEvent.loops k) (laws_toEvent.den k)
def laws_toEntry.sg : Sig := ⟨[.b kEntry], [(kEntry, .dp)]⟩
def laws_toEntry.E : Env := ⟨tys, bys, [(238, ⟨laws_toEvent.sg, laws_toEvent.F⟩)], eqs⟩
def laws_toEntry.F (k : Nat) (x : ((Int × ((Int × (Int × ((List Int) × Unit))) × Unit)) × Unit)) : Option (((Int × ((Int × (Int × ((List Int) × Unit))) × Unit)) × Unit) × Unit) :=
  (laws_toEvent.F k x.1.2).bind fun y0 =>
  some (((x.1.1, y0.1), ()), ())
def laws_toEntry.hd : Hints := ⟨[], [], [2], [0, 1, 2, 3], []⟩
def laws_toEntry.lps (k : Nat) : List (Nat × Lp laws_toEntry.sg.Out) := []
theorem laws_toEntry.loops (k : Nat) : LoopsOk laws_toEntry.E k laws_toEntry.hd (laws_toEntry.lps k) (loopsOf (Go.Proofs.Try.f129.body.getD .skip)) := trivial
theorem laws_toEntry.den (k : Nat) (x : Sig.In laws_toEntry.sg.ps) : denFn laws_toEntry.E k Go.Proofs.Try.f129 laws_toEntry.sg laws_toEntry.hd (runL k laws_toEntry.hd (laws_toEntry.lps k)) x = laws_toEntry.F k x := by kernel_rfl
theorem laws_toEntry.ok (k : Nat) : Contract Try.prog 129 laws_toEntry.sg (laws_toEntry.F k) := ok_of (E := laws_toEntry.E) (tysOk _ _) (eqsOk _) ⟨laws_toEvent.ok k, trivial⟩ Try.func129 rfl (by kernel_rfl) (laws_toEntry.loops k) (laws_toEntry.den k)
def laws_toEntryS.sg : Sig := ⟨[.b (.sl kEntry)], [((.sl kEntry), .dp)]⟩
def laws_toEntryS.E : Env := ⟨tys, bys, [(129, ⟨laws_toEntry.sg, laws_toEntry.F⟩)], eqs⟩
def laws_toEntryS.l3 {ρ : Type} (k : Nat) (c0 : (List (Int × ((Int × (Int × ((List Int) × Unit))) × Unit)) × Unit) → Option ρ) : Nat → List (Int × ((Int × (Int × ((List Int) × Unit))) × Unit)) → Int → List (Int × ((Int × (Int × ((List Int) × Unit))) × Unit)) → Option ρ
  | 0 => fun _ _ _ => none
  | n + 1 => fun x0 x1 x2 => 
    bif (decide ((x1 < (((List.length x0) : Nat) : Int)))) then
    (bif (Go.Dn.inB x1 (((List.length x0) : Nat) : Int)) then
      (Go.Dn.share (List.getD x0 (Int.toNat x1) ((0 : Int), (((0 : Int), ((0 : Int), (([] : List Int), ()))), ()))) fun s0 =>
        (laws_toEntry.F k (s0, ())).bind fun y1 =>
        bif (Go.Dn.inB x1 (((List.length x2) : Nat) : Int)) then
        (Go.Dn.share (List.set x2 (Int.toNat x1) (y1.1.1.1, (y1.1.1.2.1.1, y1.1.1.2.1.2.1, y1.1.1.2.1.2.2.1, (List.getD x2 (Int.toNat x1) ((0 : Int), (((0 : Int), ((0 : Int), (([] : List Int), ()))), ()))).2.1.2.2.2), (List.getD x2 (Int.toNat x1) ((0 : Int), (((0 : Int), ((0 : Int), (([] : List Int), ()))), ()))).2.2)) fun s2 =>
          laws_toEntryS.l3 k c0 n x0 (IntKind.wrap .i64 (x1 + (1 : Int))) s2)
        else none)
      else none)
    else c0 (x2, ())
def laws_toEntryS.F (k : Nat) (x : ((List (Int × ((Int × (Int × ((List Int) × Unit))) × Unit))) × Unit)) : Option (((List (Int × ((Int × (Int × ((List Int) × Unit))) × Unit))) × Unit) × Unit) :=
  bif (decide (((((List.length x.1) : Nat) : Int) ≤ (((List.length x.1) : Nat) : Int)))) then
  (bif (Go.Dn.roomy (Int.toNat (((List.length x.1) : Nat) : Int)) 48) then
    (laws_toEntryS.l3 k (fun e3 =>
        some (e3, ())) k x.1 (0 : Int) (List.replicate (Int.toNat (((List.length x.1) : Nat) : Int)) ((0 : Int), (((0 : Int), ((0 : Int), (([] : List Int), ()))), ()))))
    else none)
  else none
def laws_toEntryS.hd : Hints := ⟨[(3, ⟨[0, 3, 4], []⟩)], [(0, [3]), (1, [0, 3, 4])], [2], [0, 3, 4], []⟩
def laws_toEntryS.lps (k : Nat) : List (Nat × Lp laws_toEntryS.sg.Out) := [(3, ⟨[.l kEntry, .i, .l kEntry], fun x => (fun x0 x1 x2 => ⟨[(0, .v false [.fz kEntry x0]), (3, .v false [.arr 0]), (4, .v false [.int .i64 x1])], [(0, .arr kEntry true false x2)], []⟩) x.1 x.2.1 x.2.2.1, fun C n x => laws_toEntryS.l3 k (fun y => C (.exit 0) ((fun y0 => ⟨[(3, .v false [.arr 0])], [(0, .arr kEntry true false y0)], []⟩) y.1)) n x.1 x.2.1 x.2.2.1⟩)]
theorem laws_toEntryS.loops (k : Nat) : LoopsOk laws_toEntryS.E k laws_toEntryS.hd (laws_toEntryS.lps k) (loopsOf (Go.Proofs.Try.f128.body.getD .skip)) := ⟨⟨fun _ _ => rfl, fun _ _ _ => by kernel_rfl, fun _ => ⟨rfl, rfl⟩⟩, trivial⟩
theorem laws_toEntryS.den (k : Nat) (x : Sig.In laws_toEntryS.sg.ps) : denFn laws_toEntryS.E k Go.Proofs.Try.f128 laws_toEntryS.sg laws_toEntryS.hd (runL k laws_toEntryS.hd (laws_toEntryS.lps k)) x = laws_toEntryS.F k x := by kernel_rfl
theorem laws_toEntryS.ok (k : Nat) : Contract Try.prog 128 laws_toEntryS.sg (laws_toEntryS.F k) := ok_of (E := laws_toEntryS.E) (tysOk _ _) (eqsOk _) ⟨laws_toEntry.ok k, trivial⟩ Try.func128 rfl (by kernel_rfl) (laws_toEntryS.loops k) (laws_toEntryS.den k)
def laws_toNode.sg : Sig := ⟨[.b kNode], [(kNode, .dp)]⟩
def laws_toNode.E : Env := ⟨tys, bys, [(128, ⟨laws_toEntryS.sg, laws_toEntryS.F⟩)], eqs⟩
def laws_toNode.F (k : Nat) (x : ((Int × (Bool × (Int × (Int × ((List (Int × ((Int × (Int × ((List Int) × Unit))) × Unit))) × (Int × (Int × (Int × (Int × Unit))))))))) × Unit)) : Option (((Int × (Bool × (Int × (Int × ((List (Int × ((Int × (Int × ((List Int) × Unit))) × Unit))) × (Int × (Int × (Int × (Int × Unit))))))))) × Unit) × Unit) :=
  (laws_toEntryS.F k (x.1.2.2.2.2.1, ())).bind fun y0 =>
  some (((x.1.1, x.1.2.1, x.1.2.2.1, x.1.2.2.2.1, y0.1.1, x.1.2.2.2.2.2), ()), ())
def laws_toNode.hd : Hints := ⟨[], [], [2], [0, 1, 2, 3], []⟩
def laws_toNode.lps (k : Nat) : List (Nat × Lp laws_toNode.sg.Out) := []
theorem laws_toNode.loops (k : Nat) : LoopsOk laws_toNode.E k laws_toNode.hd (laws_toNode.lps k) (loopsOf (Go.Proofs.Try.f32.body.getD .skip)) := trivial
theorem laws_toNode.den (k : Nat) (x : Sig.In laws_toNode.sg.ps) : denFn laws_toNode.E k Go.Proofs.Try.f32 laws_toNode.sg laws_toNode.hd (runL k laws_toNode.hd (laws_toNode.lps k)) x = laws_toNode.F k x := by kernel_rfl
theorem laws_toNode.ok (k : Nat) : Contract Try.prog 32 laws_toNode.sg (laws_toNode.F k) := ok_of (E := laws_toNode.E) (tysOk _ _) (eqsOk _) ⟨laws_toEntryS.ok k, trivial⟩ Try.func32 rfl (by kernel_rfl) (laws_toNode.loops k) (laws_toNode.den k)
def laws_toMail.sg : Sig := ⟨[.b kMail], [(kMail, .dp)]⟩
def laws_toMail.E : Env := ⟨tys, bys, [(129, ⟨laws_toEntry.sg, laws_toEntry.F⟩)], eqs⟩
def laws_toMail.F (k : Nat) (x : ((Int × (Int × (Int × (Int × (Int × (Bool × ((Int × ((Int × (Int × ((List Int) × Unit))) × Unit)) × Unit))))))) × Unit)) : Option (((Int × (Int × (Int × (Int × (Int × (Bool × ((Int × ((Int × (Int × ((List Int) × Unit))) × Unit)) × Unit))))))) × Unit) × Unit) :=
  (laws_toEntry.F k x.1.2.2.2.2.2.2).bind fun y0 =>
  some (((x.1.1, x.1.2.1, x.1.2.2.1, x.1.2.2.2.1, x.1.2.2.2.2.1, x.1.2.2.2.2.2.1, y0.1), ()), ())
def laws_toMail.hd : Hints := ⟨[], [], [2], [0, 1, 2, 3], []⟩
def laws_toMail.lps (k : Nat) : List (Nat × Lp laws_toMail.sg.Out) := []
theorem laws_toMail.loops (k : Nat) : LoopsOk laws_toMail.E k laws_toMail.hd (laws_toMail.lps k) (loopsOf (Go.Proofs.Try.f33.body.getD .skip)) := trivial
theorem laws_toMail.den (k : Nat) (x : Sig.In laws_toMail.sg.ps) : denFn laws_toMail.E k Go.Proofs.Try.f33 laws_toMail.sg laws_toMail.hd (runL k laws_toMail.hd (laws_toMail.lps k)) x = laws_toMail.F k x := by kernel_rfl
theorem laws_toMail.ok (k : Nat) : Contract Try.prog 33 laws_toMail.sg (laws_toMail.F k) := ok_of (E := laws_toMail.E) (tysOk _ _) (eqsOk _) ⟨laws_toEntry.ok k, trivial⟩ Try.func33 rfl (by kernel_rfl) (laws_toMail.loops k) (laws_toMail.den k)
def laws_eqByteS.sg : Sig := ⟨[.b (.sl (.int .u8)), .b (.sl (.int .u8))], [(.bool, .rd)]⟩
def laws_eqByteS.E : Env := ⟨tys, bys, [], eqs⟩
def laws_eqByteS.l4 {ρ : Type} (k : Nat) (c0 : (Bool × Unit) → Option ρ) (c1 : Unit → Option ρ) : Nat → List Int → List Int → Int → Option ρ
  | 0 => fun _ _ _ => none
  | n + 1 => fun x0 x1 x2 => 
    bif (decide ((x2 < (((List.length x0) : Nat) : Int)))) then
    (bif (Go.Dn.inB x2 (((List.length x0) : Nat) : Int)) then
      (Go.Dn.share (List.getD x0 (Int.toNat x2) (0 : Int)) fun s0 =>
        bif (Go.Dn.inB x2 (((List.length x1) : Nat) : Int)) then
        (Go.Dn.share (List.getD x1 (Int.toNat x2) (0 : Int)) fun s1 =>
          bif (s0 != s1) then
          (c0 (false, ()))
          else laws_eqByteS.l4 k c0 c1 n x0 x1 (IntKind.wrap .i64 (x2 + (1 : Int))))
        else none)
      else none)
    else c1 (())
def laws_eqByteS.F (k : Nat) (x : ((List Int) × ((List Int) × Unit))) : Option ((Bool × Unit) × Unit) :=
  bif ((((List.length x.1) : Nat) : Int) != (((List.length x.2.1) : Nat) : Int)) then
  (some ((false, ()), ()))
  else laws_eqByteS.l4 k (fun e2 =>
      some (e2, ())) (fun e3 =>
      some ((true, ()), ())) k x.1 x.2.1 (0 : Int)
def laws_eqByteS.hd : Hints := ⟨[(4, ⟨[0, 1, 5], []⟩)], [(0, []), (1, [0, 1, 5])], [4], [0, 1, 5], [(6, [0, 0, 3, 7, 0, 0, 48, 112, 255])]⟩
def laws_eqByteS.lps (k : Nat) : List (Nat × Lp laws_eqByteS.sg.Out) := [(4, ⟨[.l (.int .u8), .l (.int .u8), .i], fun x => (fun x0 x1 x2 => ⟨[(0, .v false [.fz (.int .u8) x0]), (1, .v false [.fz (.int .u8) x1]), (5, .v false [.int .i64 x2])], [], []⟩) x.1 x.2.1 x.2.2.1, fun C n x => laws_eqByteS.l4 k (fun y => C .ret ((fun y0 => ⟨[(4, .v false [.bool y0])], [], []⟩) y.1)) (fun _ => C (.exit 0) ⟨[], [], []⟩) n x.1 x.2.1 x.2.2.1⟩)]
theorem laws_eqByteS.loops (k : Nat) : LoopsOk laws_eqByteS.E k laws_eqByteS.hd (laws_eqByteS.lps k) (loopsOf (Go.Proofs.Try.f156.body.getD .skip)) := ⟨⟨fun _ _ => rfl, fun _ _ _ => by kernel_rfl, fun _ => ⟨rfl, rfl⟩⟩, trivial⟩
theorem laws_eqByteS.den (k : Nat) (x : Sig.In laws_eqByteS.sg.ps) : denFn laws_eqByteS.E k Go.Proofs.Try.f156 laws_eqByteS.sg laws_eqByteS.hd (runL k laws_eqByteS.hd (laws_eqByteS.lps k)) x = laws_eqByteS.F k x := by kernel_rfl
theorem laws_eqByteS.ok (k : Nat) : Contract Try.prog 156 laws_eqByteS.sg (laws_eqByteS.F k) := ok_of (E := laws_eqByteS.E) (tysOk _ _) (eqsOk _) trivial Try.func156 rfl (by kernel_rfl) (laws_eqByteS.loops k) (laws_eqByteS.den k)
def laws_eqEvent.sg : Sig := ⟨[.b kEvent, .b kEvent], [(.bool, .rd)]⟩
def laws_eqEvent.E : Env := ⟨tys, bys, [(156, ⟨laws_eqByteS.sg, laws_eqByteS.F⟩)], eqs⟩
def laws_eqEvent.F (k : Nat) (x : ((Int × (Int × ((List Int) × Unit))) × ((Int × (Int × ((List Int) × Unit))) × Unit))) : Option ((Bool × Unit) × Unit) :=
  bif (x.1.1 != x.2.1.1) then
  (some ((false, ()), ()))
  else bif (x.1.2.1 != x.2.1.2.1) then
    (some ((false, ()), ()))
    else (laws_eqByteS.F k (x.1.2.2.1, x.2.1.2.2)).bind fun y0 =>
      bif (!y0.1.1) then
      (some ((false, ()), ()))
      else some ((true, ()), ())
def laws_eqEvent.hd : Hints := ⟨[], [], [4], [0, 1, 2, 3], []⟩
def laws_eqEvent.lps (k : Nat) : List (Nat × Lp laws_eqEvent.sg.Out) := []
theorem laws_eqEvent.loops (k : Nat) : LoopsOk laws_eqEvent.E k laws_eqEvent.hd (laws_eqEvent.lps k) (loopsOf (Go.Proofs.Try.f239.body.getD .skip)) := trivial
theorem laws_eqEvent.den (k : Nat) (x : Sig.In laws_eqEvent.sg.ps) : denFn laws_eqEvent.E k Go.Proofs.Try.f239 laws_eqEvent.sg laws_eqEvent.hd (runL k laws_eqEvent.hd (laws_eqEvent.lps k)) x = laws_eqEvent.F k x := by kernel_rfl
theorem laws_eqEvent.ok (k : Nat) : Contract Try.prog 239 laws_eqEvent.sg (laws_eqEvent.F k) := ok_of (E := laws_eqEvent.E) (tysOk _ _) (eqsOk _) ⟨laws_eqByteS.ok k, trivial⟩ Try.func239 rfl (by kernel_rfl) (laws_eqEvent.loops k) (laws_eqEvent.den k)
def laws_eqEntry.sg : Sig := ⟨[.b kEntry, .b kEntry], [(.bool, .rd)]⟩
def laws_eqEntry.E : Env := ⟨tys, bys, [(239, ⟨laws_eqEvent.sg, laws_eqEvent.F⟩)], eqs⟩
def laws_eqEntry.F (k : Nat) (x : ((Int × ((Int × (Int × ((List Int) × Unit))) × Unit)) × ((Int × ((Int × (Int × ((List Int) × Unit))) × Unit)) × Unit))) : Option ((Bool × Unit) × Unit) :=
  bif (x.1.1 != x.2.1.1) then
  (some ((false, ()), ()))
  else (laws_eqEvent.F k (x.1.2.1, x.2.1.2)).bind fun y0 =>
    bif (!y0.1.1) then
    (some ((false, ()), ()))
    else some ((true, ()), ())
def laws_eqEntry.hd : Hints := ⟨[], [], [4], [0, 1, 2, 3], []⟩
def laws_eqEntry.lps (k : Nat) : List (Nat × Lp laws_eqEntry.sg.Out) := []
theorem laws_eqEntry.loops (k : Nat) : LoopsOk laws_eqEntry.E k laws_eqEntry.hd (laws_eqEntry.lps k) (loopsOf (Go.Proofs.Try.f132.body.getD .skip)) := trivial
theorem laws_eqEntry.den (k : Nat) (x : Sig.In laws_eqEntry.sg.ps) : denFn laws_eqEntry.E k Go.Proofs.Try.f132 laws_eqEntry.sg laws_eqEntry.hd (runL k laws_eqEntry.hd (laws_eqEntry.lps k)) x = laws_eqEntry.F k x := by kernel_rfl
theorem laws_eqEntry.ok (k : Nat) : Contract Try.prog 132 laws_eqEntry.sg (laws_eqEntry.F k) := ok_of (E := laws_eqEntry.E) (tysOk _ _) (eqsOk _) ⟨laws_eqEvent.ok k, trivial⟩ Try.func132 rfl (by kernel_rfl) (laws_eqEntry.loops k) (laws_eqEntry.den k)
def laws_eqEntryS.sg : Sig := ⟨[.b (.sl kEntry), .b (.sl kEntry)], [(.bool, .rd)]⟩
def laws_eqEntryS.E : Env := ⟨tys, bys, [(132, ⟨laws_eqEntry.sg, laws_eqEntry.F⟩)], eqs⟩
def laws_eqEntryS.l4 {ρ : Type} (k : Nat) (c0 : (Bool × Unit) → Option ρ) (c1 : Unit → Option ρ) : Nat → List (Int × ((Int × (Int × ((List Int) × Unit))) × Unit)) → List (Int × ((Int × (Int × ((List Int) × Unit))) × Unit)) → Int → Option ρ
  | 0 => fun _ _ _ => none
  | n + 1 => fun x0 x1 x2 => 
    bif (decide ((x2 < (((List.length x0) : Nat) : Int)))) then
    (bif (Go.Dn.inB x2 (((List.length x0) : Nat) : Int)) then
      (Go.Dn.share (List.getD x0 (Int.toNat x2) ((0 : Int), (((0 : Int), ((0 : Int), (([] : List Int), ()))), ()))) fun s0 =>
        bif (Go.Dn.inB x2 (((List.length x1) : Nat) : Int)) then
        (Go.Dn.share (List.getD x1 (Int.toNat x2) ((0 : Int), (((0 : Int), ((0 : Int), (([] : List Int), ()))), ()))) fun s1 =>
          (laws_eqEntry.F k (s0, s1, ())).bind fun y2 =>
          bif (!y2.1.1) then
          (c0 (false, ()))
          else laws_eqEntryS.l4 k c0 c1 n x0 x1 (IntKind.wrap .i64 (x2 + (1 : Int))))
        else none)
      else none)
    else c1 (())
def laws_eqEntryS.F (k : Nat) (x : ((List (Int × ((Int × (Int × ((List Int) × Unit))) × Unit))) × ((List (Int × ((Int × (Int × ((List Int) × Unit))) × Unit))) × Unit))) : Option ((Bool × Unit) × Unit) :=
  bif ((((List.length x.1) : Nat) : Int) != (((List.length x.2.1) : Nat) : Int)) then
  (some ((false, ()), ()))
  else laws_eqEntryS.l4 k (fun e3 =>
      some (e3, ())) (fun e4 =>
      some ((true, ()), ())) k x.1 x.2.1 (0 : Int)
def laws_eqEntryS.hd : Hints := ⟨[(4, ⟨[0, 1, 5], []⟩)], [(0, []), (1, [0, 1, 5])], [4], [0, 1, 5], [(6, [0, 0, 3, 7, 0, 0, 48, 112, 255, 511])]⟩
def laws_eqEntryS.lps (k : Nat) : List (Nat × Lp laws_eqEntryS.sg.Out) := [(4, ⟨[.l kEntry, .l kEntry, .i], fun x => (fun x0 x1 x2 => ⟨[(0, .v false [.fz kEntry x0]), (1, .v false [.fz kEntry x1]), (5, .v false [.int .i64 x2])], [], []⟩) x.1 x.2.1 x.2.2.1, fun C n x => laws_eqEntryS.l4 k (fun y => C .ret ((fun y0 => ⟨[(4, .v false [.bool y0])], [], []⟩) y.1)) (fun _ => C (.exit 0) ⟨[], [], []⟩) n x.1 x.2.1 x.2.2.1⟩)]
theorem laws_eqEntryS.loops (k : Nat) : LoopsOk laws_eqEntryS.E k laws_eqEntryS.hd (laws_eqEntryS.lps k) (loopsOf (Go.Proofs.Try.f131.body.getD .skip)) := ⟨⟨fun _ _ => rfl, fun _ _ _ => by kernel_rfl, fun _ => ⟨rfl, rfl⟩⟩, trivial⟩
theorem laws_eqEntryS.den (k : Nat) (x : Sig.In laws_eqEntryS.sg.ps) : denFn laws_eqEntryS.E k Go.Proofs.Try.f131 laws_eqEntryS.sg laws_eqEntryS.hd (runL k laws_eqEntryS.hd (laws_eqEntryS.lps k)) x = laws_eqEntryS.F k x := by kernel_rfl
theorem laws_eqEntryS.ok (k : Nat) : Contract Try.prog 131 laws_eqEntryS.sg (laws_eqEntryS.F k) := ok_of (E := laws_eqEntryS.E) (tysOk _ _) (eqsOk _) ⟨laws_eqEntry.ok k, trivial⟩ Try.func131 rfl (by kernel_rfl) (laws_eqEntryS.loops k) (laws_eqEntryS.den k)
def laws_eqNode.sg : Sig := ⟨[.b kNode, .b kNode], [(.bool, .rd)]⟩
def laws_eqNode.E : Env := ⟨tys, bys, [(131, ⟨laws_eqEntryS.sg, laws_eqEntryS.F⟩)], eqs⟩
def laws_eqNode.F (k : Nat) (x : ((Int × (Bool × (Int × (Int × ((List (Int × ((Int × (Int × ((List Int) × Unit))) × Unit))) × (Int × (Int × (Int × (Int × Unit))))))))) × ((Int × (Bool × (Int × (Int × ((List (Int × ((Int × (Int × ((List Int) × Unit))) × Unit))) × (Int × (Int × (Int × (Int × Unit))))))))) × Unit))) : Option ((Bool × Unit) × Unit) :=
  bif (x.1.1 != x.2.1.1) then
  (some ((false, ()), ()))
  else bif (!(x.1.2.1 == x.2.1.2.1)) then
    (some ((false, ()), ()))
    else bif (x.1.2.2.1 != x.2.1.2.2.1) then
      (some ((false, ()), ()))
      else bif (x.1.2.2.2.1 != x.2.1.2.2.2.1) then
        (some ((false, ()), ()))
        else (laws_eqEntryS.F k (x.1.2.2.2.2.1, x.2.1.2.2.2.2.1, ())).bind fun y0 =>
          bif (!y0.1.1) then
          (some ((false, ()), ()))
          else bif (x.1.2.2.2.2.2.1 != x.2.1.2.2.2.2.2.1) then
            (some ((false, ()), ()))
            else bif (x.1.2.2.2.2.2.2.1 != x.2.1.2.2.2.2.2.2.1) then
              (some ((false, ()), ()))
              else bif (x.1.2.2.2.2.2.2.2.1 != x.2.1.2.2.2.2.2.2.2.1) then
                (some ((false, ()), ()))
                else bif (x.1.2.2.2.2.2.2.2.2.1 != x.2.1.2.2.2.2.2.2.2.2.1) then
                  (some ((false, ()), ()))
                  else some ((true, ()), ())
def laws_eqNode.hd : Hints := ⟨[], [], [4], [0, 1, 2, 3], []⟩
def laws_eqNode.lps (k : Nat) : List (Nat × Lp laws_eqNode.sg.Out) := []
theorem laws_eqNode.loops (k : Nat) : LoopsOk laws_eqNode.E k laws_eqNode.hd (laws_eqNode.lps k) (loopsOf (Go.Proofs.Try.f35.body.getD .skip)) := trivial
theorem laws_eqNode.den (k : Nat) (x : Sig.In laws_eqNode.sg.ps) : denFn laws_eqNode.E k Go.Proofs.Try.f35 laws_eqNode.sg laws_eqNode.hd (runL k laws_eqNode.hd (laws_eqNode.lps k)) x = laws_eqNode.F k x := by kernel_rfl
theorem laws_eqNode.ok (k : Nat) : Contract Try.prog 35 laws_eqNode.sg (laws_eqNode.F k) := ok_of (E := laws_eqNode.E) (tysOk _ _) (eqsOk _) ⟨laws_eqEntryS.ok k, trivial⟩ Try.func35 rfl (by kernel_rfl) (laws_eqNode.loops k) (laws_eqNode.den k)
def laws_eqMail.sg : Sig := ⟨[.b kMail, .b kMail], [(.bool, .rd)]⟩
def laws_eqMail.E : Env := ⟨tys, bys, [(132, ⟨laws_eqEntry.sg, laws_eqEntry.F⟩)], eqs⟩
def laws_eqMail.F (k : Nat) (x : ((Int × (Int × (Int × (Int × (Int × (Bool × ((Int × ((Int × (Int × ((List Int) × Unit))) × Unit)) × Unit))))))) × ((Int × (Int × (Int × (Int × (Int × (Bool × ((Int × ((Int × (Int × ((List Int) × Unit))) × Unit)) × Unit))))))) × Unit))) : Option ((Bool × Unit) × Unit) :=
  bif (x.1.1 != x.2.1.1) then
  (some ((false, ()), ()))
  else bif (x.1.2.1 != x.2.1.2.1) then
    (some ((false, ()), ()))
    else bif (x.1.2.2.1 != x.2.1.2.2.1) then
      (some ((false, ()), ()))
      else bif (x.1.2.2.2.1 != x.2.1.2.2.2.1) then
        (some ((false, ()), ()))
        else bif (x.1.2.2.2.2.1 != x.2.1.2.2.2.2.1) then
          (some ((false, ()), ()))
          else bif (!(x.1.2.2.2.2.2.1 == x.2.1.2.2.2.2.2.1)) then
            (some ((false, ()), ()))
            else (laws_eqEntry.F k (x.1.2.2.2.2.2.2.1, x.2.1.2.2.2.2.2.2)).bind fun y0 =>
              bif (!y0.1.1) then
              (some ((false, ()), ()))
              else some ((true, ()), ())
def laws_eqMail.hd : Hints := ⟨[], [], [4], [0, 1, 2, 3], []⟩
def laws_eqMail.lps (k : Nat) : List (Nat × Lp laws_eqMail.sg.Out) := []
theorem laws_eqMail.loops (k : Nat) : LoopsOk laws_eqMail.E k laws_eqMail.hd (laws_eqMail.lps k) (loopsOf (Go.Proofs.Try.f36.body.getD .skip)) := trivial
theorem laws_eqMail.den (k : Nat) (x : Sig.In laws_eqMail.sg.ps) : denFn laws_eqMail.E k Go.Proofs.Try.f36 laws_eqMail.sg laws_eqMail.hd (runL k laws_eqMail.hd (laws_eqMail.lps k)) x = laws_eqMail.F k x := by kernel_rfl
theorem laws_eqMail.ok (k : Nat) : Contract Try.prog 36 laws_eqMail.sg (laws_eqMail.F k) := ok_of (E := laws_eqMail.E) (tysOk _ _) (eqsOk _) ⟨laws_eqEntry.ok k, trivial⟩ Try.func36 rfl (by kernel_rfl) (laws_eqMail.loops k) (laws_eqMail.den k)
def laws_eqMailS.sg : Sig := ⟨[.b (.sl kMail), .b (.sl kMail)], [(.bool, .rd)]⟩
def laws_eqMailS.E : Env := ⟨tys, bys, [(36, ⟨laws_eqMail.sg, laws_eqMail.F⟩)], eqs⟩
def laws_eqMailS.l4 {ρ : Type} (k : Nat) (c0 : (Bool × Unit) → Option ρ) (c1 : Unit → Option ρ) : Nat → List (Int × (Int × (Int × (Int × (Int × (Bool × ((Int × ((Int × (Int × ((List Int) × Unit))) × Unit)) × Unit))))))) → List (Int × (Int × (Int × (Int × (Int × (Bool × ((Int × ((Int × (Int × ((List Int) × Unit))) × Unit)) × Unit))))))) → Int → Option ρ
  | 0 => fun _ _ _ => none
  | n + 1 => fun x0 x1 x2 => 
    bif (decide ((x2 < (((List.length x0) : Nat) : Int)))) then
    (bif (Go.Dn.inB x2 (((List.length x0) : Nat) : Int)) then
      (Go.Dn.share (List.getD x0 (Int.toNat x2) ((0 : Int), ((0 : Int), ((0 : Int), ((0 : Int), ((0 : Int), (false, (((0 : Int), (((0 : Int), ((0 : Int), (([] : List Int), ()))), ())), ())))))))) fun s0 =>
        bif (Go.Dn.inB x2 (((List.length x1) : Nat) : Int)) then
        (Go.Dn.share (List.getD x1 (Int.toNat x2) ((0 : Int), ((0 : Int), ((0 : Int), ((0 : Int), ((0 : Int), (false, (((0 : Int), (((0 : Int), ((0 : Int), (([] : List Int), ()))), ())), ())))))))) fun s1 =>
          (laws_eqMail.F k (s0, s1, ())).bind fun y2 =>
          bif (!y2.1.1) then
          (c0 (false, ()))
          else laws_eqMailS.l4 k c0 c1 n x0 x1 (IntKind.wrap .i64 (x2 + (1 : Int))))
        else none)
      else none)
    else c1 (())
def laws_eqMailS.F (k : Nat) (x : ((List (Int × (Int × (Int × (Int × (Int × (Bool × ((Int × ((Int × (Int × ((List Int) × Unit))) × Unit)) × Unit)))))))) × ((List (Int × (Int × (Int × (Int × (Int × (Bool × ((Int × ((Int × (Int × ((List Int) × Unit))) × Unit)) × Unit)))))))) × Unit))) : Option ((Bool × Unit) × Unit) :=
  bif ((((List.length x.1) : Nat) : Int) != (((List.length x.2.1) : Nat) : Int)) then
  (some ((false, ()), ()))
  else laws_eqMailS.l4 k (fun e3 =>
      some (e3, ())) (fun e4 =>
      some ((true, ()), ())) k x.1 x.2.1 (0 : Int)
def laws_eqMailS.hd : Hints := ⟨[(4, ⟨[0, 1, 5], []⟩)], [(0, []), (1, [0, 1, 5])], [4], [0, 1, 5], [(6, [0, 0, 3, 7, 0, 0, 48, 112, 255, 511])]⟩
def laws_eqMailS.lps (k : Nat) : List (Nat × Lp laws_eqMailS.sg.Out) := [(4, ⟨[.l kMail, .l kMail, .i], fun x => (fun x0 x1 x2 => ⟨[(0, .v false [.fz kMail x0]), (1, .v false [.fz kMail x1]), (5, .v false [.int .i64 x2])], [], []⟩) x.1 x.2.1 x.2.2.1, fun C n x => laws_eqMailS.l4 k (fun y => C .ret ((fun y0 => ⟨[(4, .v false [.bool y0])], [], []⟩) y.1)) (fun _ => C (.exit 0) ⟨[], [], []⟩) n x.1 x.2.1 x.2.2.1⟩)]
theorem laws_eqMailS.loops (k : Nat) : LoopsOk laws_eqMailS.E k laws_eqMailS.hd (laws_eqMailS.lps k) (loopsOf (Go.Proofs.Try.f130.body.getD .skip)) := ⟨⟨fun _ _ => rfl, fun _ _ _ => by kernel_rfl, fun _ => ⟨rfl, rfl⟩⟩, trivial⟩
theorem laws_eqMailS.den (k : Nat) (x : Sig.In laws_eqMailS.sg.ps) : denFn laws_eqMailS.E k Go.Proofs.Try.f130 laws_eqMailS.sg laws_eqMailS.hd (runL k laws_eqMailS.hd (laws_eqMailS.lps k)) x = laws_eqMailS.F k x := by kernel_rfl
theorem laws_eqMailS.ok (k : Nat) : Contract Try.prog 130 laws_eqMailS.sg (laws_eqMailS.F k) := ok_of (E := laws_eqMailS.E) (tysOk _ _) (eqsOk _) ⟨laws_eqMail.ok k, trivial⟩ Try.func130 rfl (by kernel_rfl) (laws_eqMailS.loops k) (laws_eqMailS.den k)
def laws_eqNodeResult.sg : Sig := ⟨[.b kNodeResult, .b kNodeResult], [(.bool, .rd)]⟩
def laws_eqNodeResult.E : Env := ⟨tys, bys, [(35, ⟨laws_eqNode.sg, laws_eqNode.F⟩), (130, ⟨laws_eqMailS.sg, laws_eqMailS.F⟩)], eqs⟩
def laws_eqNodeResult.F (k : Nat) (x : ((Int × ((Int × (Bool × (Int × (Int × ((List (Int × ((Int × (Int × ((List Int) × Unit))) × Unit))) × (Int × (Int × (Int × (Int × Unit))))))))) × ((List (Int × (Int × (Int × (Int × (Int × (Bool × ((Int × ((Int × (Int × ((List Int) × Unit))) × Unit)) × Unit)))))))) × Unit))) × ((Int × ((Int × (Bool × (Int × (Int × ((List (Int × ((Int × (Int × ((List Int) × Unit))) × Unit))) × (Int × (Int × (Int × (Int × Unit))))))))) × ((List (Int × (Int × (Int × (Int × (Int × (Bool × ((Int × ((Int × (Int × ((List Int) × Unit))) × Unit)) × Unit)))))))) × Unit))) × Unit))) : Option ((Bool × Unit) × Unit) :=
  bif (x.1.1 != x.2.1.1) then
  (some ((false, ()), ()))
  else (laws_eqNode.F k (x.1.2.1, x.2.1.2.1, ())).bind fun y0 =>
    bif (!y0.1.1) then
    (some ((false, ()), ()))
    else (laws_eqMailS.F k (x.1.2.2.1, x.2.1.2.2)).bind fun y1 =>
      bif (!y1.1.1) then
      (some ((false, ()), ()))
      else some ((true, ()), ())
def laws_eqNodeResult.hd : Hints := ⟨[], [], [4], [0, 1, 2, 3], []⟩
def laws_eqNodeResult.lps (k : Nat) : List (Nat × Lp laws_eqNodeResult.sg.Out) := []
theorem laws_eqNodeResult.loops (k : Nat) : LoopsOk laws_eqNodeResult.E k laws_eqNodeResult.hd (laws_eqNodeResult.lps k) (loopsOf (Go.Proofs.Try.f34.body.getD .skip)) := trivial
theorem laws_eqNodeResult.den (k : Nat) (x : Sig.In laws_eqNodeResult.sg.ps) : denFn laws_eqNodeResult.E k Go.Proofs.Try.f34 laws_eqNodeResult.sg laws_eqNodeResult.hd (runL k laws_eqNodeResult.hd (laws_eqNodeResult.lps k)) x = laws_eqNodeResult.F k x := by kernel_rfl
theorem laws_eqNodeResult.ok (k : Nat) : Contract Try.prog 34 laws_eqNodeResult.sg (laws_eqNodeResult.F k) := ok_of (E := laws_eqNodeResult.E) (tysOk _ _) (eqsOk _) ⟨laws_eqNode.ok k, laws_eqMailS.ok k, trivial⟩ Try.func34 rfl (by kernel_rfl) (laws_eqNodeResult.loops k) (laws_eqNodeResult.den k)
def laws_markByteS.sg : Sig := ⟨[.m (.sl (.int .u8)), .b (.int .i64)], [((.int .i64), .rd)]⟩
def laws_markByteS.E : Env := ⟨tys, bys, [], eqs⟩
def laws_markByteS.l2 {ρ : Type} (k : Nat) (c0 : (Int × (List Int × Unit)) → Option ρ) : Nat → Int → Int → List Int → Option ρ
  | 0 => fun _ _ _ => none
  | n + 1 => fun x0 x1 x2 => 
    bif (decide ((x1 < (((List.length x2) : Nat) : Int)))) then
    (bif (Go.Dn.inB x1 (((List.length x2) : Nat) : Int)) then
      (Go.Dn.share (List.set x2 (Int.toNat x1) (IntKind.wrap .u8 x0)) fun s0 =>
        laws_markByteS.l2 k c0 n (IntKind.wrap .i64 (x0 + (1 : Int))) (IntKind.wrap .i64 (x1 + (1 : Int))) s0)
      else none)
    else c0 (x0, x2, ())
def laws_markByteS.F (k : Nat) (x : ((List Int) × (Int × Unit))) : Option ((Int × Unit) × ((List Int) × Unit)) :=
  laws_markByteS.l2 k (fun e1 =>
    some ((e1.1, ()), e1.2)) k x.2.1 (0 : Int) x.1
def laws_markByteS.hd : Hints := ⟨[(2, ⟨[0, 1, 5], []⟩)], [(0, [1]), (1, [0, 1, 5])], [4], [0, 1, 5], []⟩
def laws_markByteS.lps (k : Nat) : List (Nat × Lp laws_markByteS.sg.Out) := [(2, ⟨[.i, .i, .l (.int .u8)], fun x => (fun x0 x1 x2 => ⟨[(0, .v false [.arr 0]), (1, .v false [.int .i64 x0]), (5, .v false [.int .i64 x1])], [(0, .arr (.int .u8) true false x2)], [.arr 0]⟩) x.1 x.2.1 x.2.2.1, fun C n x => laws_markByteS.l2 k (fun y => C (.exit 0) ((fun y0 y1 => ⟨[(1, .v false [.int .i64 y0])], [(0, .arr (.int .u8) true false y1)], [.arr 0]⟩) y.1 y.2.1)) n x.1 x.2.1 x.2.2.1⟩)]
theorem laws_markByteS.loops (k : Nat) : LoopsOk laws_markByteS.E k laws_markByteS.hd (laws_markByteS.lps k) (loopsOf (Go.Proofs.Try.f158.body.getD .skip)) := ⟨⟨fun _ _ => rfl, fun _ _ _ => by kernel_rfl, fun _ => ⟨rfl, rfl⟩⟩, trivial⟩
theorem laws_markByteS.den (k : Nat) (x : Sig.In laws_markByteS.sg.ps) : denFn laws_markByteS.E k Go.Proofs.Try.f158 laws_markByteS.sg laws_markByteS.hd (runL k laws_markByteS.hd (laws_markByteS.lps k)) x = laws_markByteS.F k x := by kernel_rfl
theorem laws_markByteS.ok (k : Nat) : Contract Try.prog 158 laws_markByteS.sg (laws_markByteS.F k) := ok_of (E := laws_markByteS.E) (tysOk _ _) (eqsOk _) trivial Try.func158 rfl (by kernel_rfl) (laws_markByteS.loops k) (laws_markByteS.den k)
def laws_markEntryS.sg : Sig := ⟨[.m (.sl kEntry), .b (.int .i64)], [((.int .i64), .rd)]⟩
def laws_markEntryS.E : Env := ⟨tys, bys, [(158, ⟨laws_markByteS.sg, laws_markByteS.F⟩)], eqs⟩
def laws_markEntryS.l2 {ρ : Type} (k : Nat) (c0 : (Int × (List (Int × ((Int × (Int × ((List Int) × Unit))) × Unit)) × Unit)) → Option ρ) : Nat → Int → Int → List (Int × ((Int × (Int × ((List Int) × Unit))) × Unit)) → Option ρ
  | 0 => fun _ _ _ => none
  | n + 1 => fun x0 x1 x2 => 
    bif (decide ((x1 < (((List.length x2) : Nat) : Int)))) then
    (bif (Go.Dn.inB x1 (((List.length x2) : Nat) : Int)) then
      (Go.Dn.share (List.set x2 (Int.toNat x1) (x0, (List.getD x2 (Int.toNat x1) ((0 : Int), (((0 : Int), ((0 : Int), (([] : List Int), ()))), ()))).2)) fun s0 =>
        bif (Go.Dn.inB x1 (((List.length s0) : Nat) : Int)) then
        (Go.Dn.share (List.set s0 (Int.toNat x1) ((List.getD s0 (Int.toNat x1) ((0 : Int), (((0 : Int), ((0 : Int), (([] : List Int), ()))), ()))).1, ((IntKind.wrap .i64 (x0 + (1 : Int))), (List.getD s0 (Int.toNat x1) ((0 : Int), (((0 : Int), ((0 : Int), (([] : List Int), ()))), ()))).2.1.2), (List.getD s0 (Int.toNat x1) ((0 : Int), (((0 : Int), ((0 : Int), (([] : List Int), ()))), ()))).2.2)) fun s1 =>
          bif (Go.Dn.inB x1 (((List.length s1) : Nat) : Int)) then
          (Go.Dn.share (List.set s1 (Int.toNat x1) ((List.getD s1 (Int.toNat x1) ((0 : Int), (((0 : Int), ((0 : Int), (([] : List Int), ()))), ()))).1, ((List.getD s1 (Int.toNat x1) ((0 : Int), (((0 : Int), ((0 : Int), (([] : List Int), ()))), ()))).2.1.1, (IntKind.wrap .i64 ((IntKind.wrap .i64 (x0 + (1 : Int))) + (1 : Int))), (List.getD s1 (Int.toNat x1) ((0 : Int), (((0 : Int), ((0 : Int), (([] : List Int), ()))), ()))).2.1.2.2), (List.getD s1 (Int.toNat x1) ((0 : Int), (((0 : Int), ((0 : Int), (([] : List Int), ()))), ()))).2.2)) fun s2 =>
            bif (Go.Dn.inB x1 (((List.length s2) : Nat) : Int)) then
            ((laws_markByteS.F k ((List.getD s2 (Int.toNat x1) ((0 : Int), (((0 : Int), ((0 : Int), (([] : List Int), ()))), ()))).2.1.2.2.1, (IntKind.wrap .i64 ((IntKind.wrap .i64 ((IntKind.wrap .i64 (x0 + (1 : Int))) + (1 : Int))) + (1 : Int))), ())).bind fun y3 =>
              Go.Dn.share (List.set s2 (Int.toNat x1) ((List.getD s2 (Int.toNat x1) ((0 : Int), (((0 : Int), ((0 : Int), (([] : List Int), ()))), ()))).1, ((List.getD s2 (Int.toNat x1) ((0 : Int), (((0 : Int), ((0 : Int), (([] : List Int), ()))), ()))).2.1.1, (List.getD s2 (Int.toNat x1) ((0 : Int), (((0 : Int), ((0 : Int), (([] : List Int), ()))), ()))).2.1.2.1, y3.2.1, (List.getD s2 (Int.toNat x1) ((0 : Int), (((0 : Int), ((0 : Int), (([] : List Int), ()))), ()))).2.1.2.2.2), (List.getD s2 (Int.toNat x1) ((0 : Int), (((0 : Int), ((0 : Int), (([] : List Int), ()))), ()))).2.2)) fun s4 =>
              laws_markEntryS.l2 k c0 n y3.1.1 (IntKind.wrap .i64 (x1 + (1 : Int))) s4)
            else none)
          else none)
        else none)
      else none)
    else c0 (x0, x2, ())
def laws_markEntryS.F (k : Nat) (x : ((List (Int × ((Int × (Int × ((List Int) × Unit))) × Unit))) × (Int × Unit))) : Option ((Int × Unit) × ((List (Int × ((Int × (Int × ((List Int) × Unit))) × Unit))) × Unit)) :=
  laws_markEntryS.l2 k (fun e5 =>
    some ((e5.1, ()), e5.2)) k x.2.1 (0 : Int) x.1
def laws_markEntryS.hd : Hints := ⟨[(2, ⟨[0, 1, 5], []⟩)], [(0, [1]), (1, [0, 1, 5])], [4], [0, 1, 5], []⟩
def laws_markEntryS.lps (k : Nat) : List (Nat × Lp laws_markEntryS.sg.Out) := [(2, ⟨[.i, .i, .l kEntry], fun x => (fun x0 x1 x2 => ⟨[(0, .v false [.arr 0]), (1, .v false [.int .i64 x0]), (5, .v false [.int .i64 x1])], [(0, .arr kEntry true false x2)], [.arr 0]⟩) x.1 x.2.1 x.2.2.1, fun C n x => laws_markEntryS.l2 k (fun y => C (.exit 0) ((fun y0 y1 => ⟨[(1, .v false [.int .i64 y0])], [(0, .arr kEntry true false y1)], [.arr 0]⟩) y.1 y.2.1)) n x.1 x.2.1 x.2.2.1⟩)]
theorem laws_markEntryS.loops (k : Nat) : LoopsOk laws_markEntryS.E k laws_markEntryS.hd (laws_markEntryS.lps k) (loopsOf (Go.Proofs.Try.f133.body.getD .skip)) := ⟨⟨fun _ _ => rfl, fun _ _ _ => by kernel_rfl, fun _ => ⟨rfl, rfl⟩⟩, trivial⟩
theorem laws_markEntryS.den (k : Nat) (x : Sig.In laws_markEntryS.sg.ps) : denFn laws_markEntryS.E k Go.Proofs.Try.f133 laws_markEntryS.sg laws_markEntryS.hd (runL k laws_markEntryS.hd (laws_markEntryS.lps k)) x = laws_markEntryS.F k x := by kernel_rfl
theorem laws_markEntryS.ok (k : Nat) : Contract Try.prog 133 laws_markEntryS.sg (laws_markEntryS.F k) := ok_of (E := laws_markEntryS.E) (tysOk _ _) (eqsOk _) ⟨laws_markByteS.ok k, trivial⟩ Try.func133 rfl (by kernel_rfl) (laws_markEntryS.loops k) (laws_markEntryS.den k)
def laws_markNode.sg : Sig := ⟨[.m kNode, .b (.int .i64)], [((.int .i64), .rd)]⟩
def laws_markNode.E : Env := ⟨tys, bys, [(133, ⟨laws_markEntryS.sg, laws_markEntryS.F⟩)], eqs⟩
def laws_markNode.F (k : Nat) (x : ((Int × (Bool × (Int × (Int × ((List (Int × ((Int × (Int × ((List Int) × Unit))) × Unit))) × (Int × (Int × (Int × (Int × Unit))))))))) × (Int × Unit))) : Option ((Int × Unit) × ((Int × (Bool × (Int × (Int × ((List (Int × ((Int × (Int × ((List Int) × Unit))) × Unit))) × (Int × (Int × (Int × (Int × Unit))))))))) × Unit)) :=
  (laws_markEntryS.F k (x.1.2.2.2.2.1, x.2)).bind fun y0 =>
  some (y0.1, (x.1.1, x.1.2.1, x.1.2.2.1, x.1.2.2.2.1, y0.2.1, x.1.2.2.2.2.2), ())
def laws_markNode.hd : Hints := ⟨[], [], [4], [0, 1, 2], []⟩
def laws_markNode.lps (k : Nat) : List (Nat × Lp laws_markNode.sg.Out) := []
theorem laws_markNode.loops (k : Nat) : LoopsOk laws_markNode.E k laws_markNode.hd (laws_markNode.lps k) (loopsOf (Go.Proofs.Try.f37.body.getD .skip)) := trivial
theorem laws_markNode.den (k : Nat) (x : Sig.In laws_markNode.sg.ps) : denFn laws_markNode.E k Go.Proofs.Try.f37 laws_markNode.sg laws_markNode.hd (runL k laws_markNode.hd (laws_markNode.lps k)) x = laws_markNode.F k x := by kernel_rfl
theorem laws_markNode.ok (k : Nat) : Contract Try.prog 37 laws_markNode.sg (laws_markNode.F k) := ok_of (E := laws_markNode.E) (tysOk _ _) (eqsOk _) ⟨laws_markEntryS.ok k, trivial⟩ Try.func37 rfl (by kernel_rfl) (laws_markNode.loops k) (laws_markNode.den k)
def laws_markEvent.sg : Sig := ⟨[.m kEvent, .b (.int .i64)], [((.int .i64), .rd)]⟩
def laws_markEvent.E : Env := ⟨tys, bys, [(158, ⟨laws_markByteS.sg, laws_markByteS.F⟩)], eqs⟩
def laws_markEvent.F (k : Nat) (x : ((Int × (Int × ((List Int) × Unit))) × (Int × Unit))) : Option ((Int × Unit) × ((Int × (Int × ((List Int) × Unit))) × Unit)) :=
  (laws_markByteS.F k (x.1.2.2.1, x.2)).bind fun y0 =>
  some (y0.1, (x.1.1, x.1.2.1, y0.2), ())
def laws_markEvent.hd : Hints := ⟨[], [], [4], [0, 1, 2], []⟩
def laws_markEvent.lps (k : Nat) : List (Nat × Lp laws_markEvent.sg.Out) := []
theorem laws_markEvent.loops (k : Nat) : LoopsOk laws_markEvent.E k laws_markEvent.hd (laws_markEvent.lps k) (loopsOf (Go.Proofs.Try.f240.body.getD .skip)) := trivial
theorem laws_markEvent.den (k : Nat) (x : Sig.In laws_markEvent.sg.ps) : denFn laws_markEvent.E k Go.Proofs.Try.f240 laws_markEvent.sg laws_markEvent.hd (runL k laws_markEvent.hd (laws_markEvent.lps k)) x = laws_markEvent.F k x := by kernel_rfl
theorem laws_markEvent.ok (k : Nat) : Contract Try.prog 240 laws_markEvent.sg (laws_markEvent.F k) := ok_of (E := laws_markEvent.E) (tysOk _ _) (eqsOk _) ⟨laws_markByteS.ok k, trivial⟩ Try.func240 rfl (by kernel_rfl) (laws_markEvent.loops k) (laws_markEvent.den k)
def laws_markEntry.sg : Sig := ⟨[.m kEntry, .b (.int .i64)], [((.int .i64), .rd)]⟩
def laws_markEntry.E : Env := ⟨tys, bys, [(240, ⟨laws_markEvent.sg, laws_markEvent.F⟩)], eqs⟩
def laws_markEntry.F (k : Nat) (x : ((Int × ((Int × (Int × ((List Int) × Unit))) × Unit)) × (Int × Unit))) : Option ((Int × Unit) × ((Int × ((Int × (Int × ((List Int) × Unit))) × Unit)) × Unit)) :=
  (laws_markEvent.F k (x.1.2.1, x.2)).bind fun y0 =>
  some (y0.1, (x.1.1, (x.1.2.1.1, x.1.2.1.2.1, y0.2.1.2.2), ()), ())
def laws_markEntry.hd : Hints := ⟨[], [], [4], [0, 1, 2], []⟩
def laws_markEntry.lps (k : Nat) : List (Nat × Lp laws_markEntry.sg.Out) := []
theorem laws_markEntry.loops (k : Nat) : LoopsOk laws_markEntry.E k laws_markEntry.hd (laws_markEntry.lps k) (loopsOf (Go.Proofs.Try.f134.body.getD .skip)) := trivial
theorem laws_markEntry.den (k : Nat) (x : Sig.In laws_markEntry.sg.ps) : denFn laws_markEntry.E k Go.Proofs.Try.f134 laws_markEntry.sg laws_markEntry.hd (runL k laws_markEntry.hd (laws_markEntry.lps k)) x = laws_markEntry.F k x := by kernel_rfl
theorem laws_markEntry.ok (k : Nat) : Contract Try.prog 134 laws_markEntry.sg (laws_markEntry.F k) := ok_of (E := laws_markEntry.E) (tysOk _ _) (eqsOk _) ⟨laws_markEvent.ok k, trivial⟩ Try.func134 rfl (by kernel_rfl) (laws_markEntry.loops k) (laws_markEntry.den k)
def laws_markMail.sg : Sig := ⟨[.m kMail, .b (.int .i64)], [((.int .i64), .rd)]⟩
def laws_markMail.E : Env := ⟨tys, bys, [(134, ⟨laws_markEntry.sg, laws_markEntry.F⟩)], eqs⟩
def laws_markMail.F (k : Nat) (x : ((Int × (Int × (Int × (Int × (Int × (Bool × ((Int × ((Int × (Int × ((List Int) × Unit))) × Unit)) × Unit))))))) × (Int × Unit))) : Option ((Int × Unit) × ((Int × (Int × (Int × (Int × (Int × (Bool × ((Int × ((Int × (Int × ((List Int) × Unit))) × Unit)) × Unit))))))) × Unit)) :=
  (laws_markEntry.F k (x.1.2.2.2.2.2.2.1, x.2)).bind fun y0 =>
  some (y0.1, (x.1.1, x.1.2.1, x.1.2.2.1, x.1.2.2.2.1, x.1.2.2.2.2.1, x.1.2.2.2.2.2.1, (x.1.2.2.2.2.2.2.1.1, (x.1.2.2.2.2.2.2.1.2.1.1, x.1.2.2.2.2.2.2.1.2.1.2.1, y0.2.1.2.1.2.2), ()), ()), ())
def laws_markMail.hd : Hints := ⟨[], [], [4], [0, 1, 2], []⟩
def laws_markMail.lps (k : Nat) : List (Nat × Lp laws_markMail.sg.Out) := []
theorem laws_markMail.loops (k : Nat) : LoopsOk laws_markMail.E k laws_markMail.hd (laws_markMail.lps k) (loopsOf (Go.Proofs.Try.f38.body.getD .skip)) := trivial
theorem laws_markMail.den (k : Nat) (x : Sig.In laws_markMail.sg.ps) : denFn laws_markMail.E k Go.Proofs.Try.f38 laws_markMail.sg laws_markMail.hd (runL k laws_markMail.hd (laws_markMail.lps k)) x = laws_markMail.F k x := by kernel_rfl
theorem laws_markMail.ok (k : Nat) : Contract Try.prog 38 laws_markMail.sg (laws_markMail.F k) := ok_of (E := laws_markMail.E) (tysOk _ _) (eqsOk _) ⟨laws_markEntry.ok k, trivial⟩ Try.func38 rfl (by kernel_rfl) (laws_markMail.loops k) (laws_markMail.den k)
def laws_markMailS.sg : Sig := ⟨[.m (.sl kMail), .b (.int .i64)], [((.int .i64), .rd)]⟩
def laws_markMailS.E : Env := ⟨tys, bys, [(158, ⟨laws_markByteS.sg, laws_markByteS.F⟩)], eqs⟩
def laws_markMailS.l2 {ρ : Type} (k : Nat) (c0 : (Int × (List (Int × (Int × (Int × (Int × (Int × (Bool × ((Int × ((Int × (Int × ((List Int) × Unit))) × Unit)) × Unit))))))) × Unit)) → Option ρ) : Nat → Int → Int → List (Int × (Int × (Int × (Int × (Int × (Bool × ((Int × ((Int × (Int × ((List Int) × Unit))) × Unit)) × Unit))))))) → Option ρ
  | 0 => fun _ _ _ => none
  | n + 1 => fun x0 x1 x2 => 
    bif (decide ((x1 < (((List.length x2) : Nat) : Int)))) then
    (bif (Go.Dn.inB x1 (((List.length x2) : Nat) : Int)) then
      (Go.Dn.share (List.set x2 (Int.toNat x1) (x0, (List.getD x2 (Int.toNat x1) ((0 : Int), ((0 : Int), ((0 : Int), ((0 : Int), ((0 : Int), (false, (((0 : Int), (((0 : Int), ((0 : Int), (([] : List Int), ()))), ())), ())))))))).2)) fun s0 =>
        bif (Go.Dn.inB x1 (((List.length s0) : Nat) : Int)) then
        (Go.Dn.share (List.set s0 (Int.toNat x1) ((List.getD s0 (Int.toNat x1) ((0 : Int), ((0 : Int), ((0 : Int), ((0 : Int), ((0 : Int), (false, (((0 : Int), (((0 : Int), ((0 : Int), (([] : List Int), ()))), ())), ())))))))).1, (IntKind.wrap .i64 (x0 + (1 : Int))), (List.getD s0 (Int.toNat x1) ((0 : Int), ((0 : Int), ((0 : Int), ((0 : Int), ((0 : Int), (false, (((0 : Int), (((0 : Int), ((0 : Int), (([] : List Int), ()))), ())), ())))))))).2.2)) fun s1 =>
          bif (Go.Dn.inB x1 (((List.length s1) : Nat) : Int)) then
          (Go.Dn.share (List.set s1 (Int.toNat x1) ((List.getD s1 (Int.toNat x1) ((0 : Int), ((0 : Int), ((0 : Int), ((0 : Int), ((0 : Int), (false, (((0 : Int), (((0 : Int), ((0 : Int), (([] : List Int), ()))), ())), ())))))))).1, (List.getD s1 (Int.toNat x1) ((0 : Int), ((0 : Int), ((0 : Int), ((0 : Int), ((0 : Int), (false, (((0 : Int), (((0 : Int), ((0 : Int), (([] : List Int), ()))), ())), ())))))))).2.1, (IntKind.wrap .i64 ((IntKind.wrap .i64 (x0 + (1 : Int))) + (1 : Int))), (List.getD s1 (Int.toNat x1) ((0 : Int), ((0 : Int), ((0 : Int), ((0 : Int), ((0 : Int), (false, (((0 : Int), (((0 : Int), ((0 : Int), (([] : List Int), ()))), ())), ())))))))).2.2.2)) fun s2 =>
            bif (Go.Dn.inB x1 (((List.length s2) : Nat) : Int)) then
            (Go.Dn.share (List.set s2 (Int.toNat x1) ((List.getD s2 (Int.toNat x1) ((0 : Int), ((0 : Int), ((0 : Int), ((0 : Int), ((0 : Int), (false, (((0 : Int), (((0 : Int), ((0 : Int), (([] : List Int), ()))), ())), ())))))))).1, (List.getD s2 (Int.toNat x1) ((0 : Int), ((0 : Int), ((0 : Int), ((0 : Int), ((0 : Int), (false, (((0 : Int), (((0 : Int), ((0 : Int), (([] : List Int), ()))), ())), ())))))))).2.1, (List.getD s2 (Int.toNat x1) ((0 : Int), ((0 : Int), ((0 : Int), ((0 : Int), ((0 : Int), (false, (((0 : Int), (((0 : Int), ((0 : Int), (([] : List Int), ()))), ())), ())))))))).2.2.1, (IntKind.wrap .i64 ((IntKind.wrap .i64 ((IntKind.wrap .i64 (x0 + (1 : Int))) + (1 : Int))) + (1 : Int))), (List.getD s2 (Int.toNat x1) ((0 : Int), ((0 : Int), ((0 : Int), ((0 : Int), ((0 : Int), (false, (((0 : Int), (((0 : Int), ((0 : Int), (([] : List Int), ()))), ())), ())))))))).2.2.2.2)) fun s3 =>
              bif (Go.Dn.inB x1 (((List.length s3) : Nat) : Int)) then
              (Go.Dn.share (List.set s3 (Int.toNat x1) ((List.getD s3 (Int.toNat x1) ((0 : Int), ((0 : Int), ((0 : Int), ((0 : Int), ((0 : Int), (false, (((0 : Int), (((0 : Int), ((0 : Int), (([] : List Int), ()))), ())), ())))))))).1, (List.getD s3 (Int.toNat x1) ((0 : Int), ((0 : Int), ((0 : Int), ((0 : Int), ((0 : Int), (false, (((0 : Int), (((0 : Int), ((0 : Int), (([] : List Int), ()))), ())), ())))))))).2.1, (List.getD s3 (Int.toNat x1) ((0 : Int), ((0 : Int), ((0 : Int), ((0 : Int), ((0 : Int), (false, (((0 : Int), (((0 : Int), ((0 : Int), (([] : List Int), ()))), ())), ())))))))).2.2.1, (List.getD s3 (Int.toNat x1) ((0 : Int), ((0 : Int), ((0 : Int), ((0 : Int), ((0 : Int), (false, (((0 : Int), (((0 : Int), ((0 : Int), (([] : List Int), ()))), ())), ())))))))).2.2.2.1, (IntKind.wrap .i64 ((IntKind.wrap .i64 ((IntKind.wrap .i64 ((IntKind.wrap .i64 (x0 + (1 : Int))) + (1 : Int))) + (1 : Int))) + (1 : Int))), (List.getD s3 (Int.toNat x1) ((0 : Int), ((0 : Int), ((0 : Int), ((0 : Int), ((0 : Int), (false, (((0 : Int), (((0 : Int), ((0 : Int), (([] : List Int), ()))), ())), ())))))))).2.2.2.2.2)) fun s4 =>
                bif (Go.Dn.inB x1 (((List.length s4) : Nat) : Int)) then
                (Go.Dn.share (List.set s4 (Int.toNat x1) ((List.getD s4 (Int.toNat x1) ((0 : Int), ((0 : Int), ((0 : Int), ((0 : Int), ((0 : Int), (false, (((0 : Int), (((0 : Int), ((0 : Int), (([] : List Int), ()))), ())), ())))))))).1, (List.getD s4 (Int.toNat x1) ((0 : Int), ((0 : Int), ((0 : Int), ((0 : Int), ((0 : Int), (false, (((0 : Int), (((0 : Int), ((0 : Int), (([] : List Int), ()))), ())), ())))))))).2.1, (List.getD s4 (Int.toNat x1) ((0 : Int), ((0 : Int), ((0 : Int), ((0 : Int), ((0 : Int), (false, (((0 : Int), (((0 : Int), ((0 : Int), (([] : List Int), ()))), ())), ())))))))).2.2.1, (List.getD s4 (Int.toNat x1) ((0 : Int), ((0 : Int), ((0 : Int), ((0 : Int), ((0 : Int), (false, (((0 : Int), (((0 : Int), ((0 : Int), (([] : List Int), ()))), ())), ())))))))).2.2.2.1, (List.getD s4 (Int.toNat x1) ((0 : Int), ((0 : Int), ((0 : Int), ((0 : Int), ((0 : Int), (false, (((0 : Int), (((0 : Int), ((0 : Int), (([] : List Int), ()))), ())), ())))))))).2.2.2.2.1, ((Int.tmod (IntKind.wrap .i64 ((IntKind.wrap .i64 ((IntKind.wrap .i64 ((IntKind.wrap .i64 ((IntKind.wrap .i64 (x0 + (1 : Int))) + (1 : Int))) + (1 : Int))) + (1 : Int))) + (1 : Int))) (3 : Int)) == (0 : Int)), (List.getD s4 (Int.toNat x1) ((0 : Int), ((0 : Int), ((0 : Int), ((0 : Int), ((0 : Int), (false, (((0 : Int), (((0 : Int), ((0 : Int), (([] : List Int), ()))), ())), ())))))))).2.2.2.2.2.2)) fun s5 =>
                  bif (Go.Dn.inB x1 (((List.length s5) : Nat) : Int)) then
                  (Go.Dn.share (List.set s5 (Int.toNat x1) ((List.getD s5 (Int.toNat x1) ((0 : Int), ((0 : Int), ((0 : Int), ((0 : Int), ((0 : Int), (false, (((0 : Int), (((0 : Int), ((0 : Int), (([] : List Int), ()))), ())), ())))))))).1, (List.getD s5 (Int.toNat x1) ((0 : Int), ((0 : Int), ((0 : Int), ((0 : Int), ((0 : Int), (false, (((0 : Int), (((0 : Int), ((0 : Int), (([] : List Int), ()))), ())), ())))))))).2.1, (List.getD s5 (Int.toNat x1) ((0 : Int), ((0 : Int), ((0 : Int), ((0 : Int), ((0 : Int), (false, (((0 : Int), (((0 : Int), ((0 : Int), (([] : List Int), ()))), ())), ())))))))).2.2.1, (List.getD s5 (Int.toNat x1) ((0 : Int), ((0 : Int), ((0 : Int), ((0 : Int), ((0 : Int), (false, (((0 : Int), (((0 : Int), ((0 : Int), (([] : List Int), ()))), ())), ())))))))).2.2.2.1, (List.getD s5 (Int.toNat x1) ((0 : Int), ((0 : Int), ((0 : Int), ((0 : Int), ((0 : Int), (false, (((0 : Int), (((0 : Int), ((0 : Int), (([] : List Int), ()))), ())), ())))))))).2.2.2.2.1, (List.getD s5 (Int.toNat x1) ((0 : Int), ((0 : Int), ((0 : Int), ((0 : Int), ((0 : Int), (false, (((0 : Int), (((0 : Int), ((0 : Int), (([] : List Int), ()))), ())), ())))))))).2.2.2.2.2.1, ((IntKind.wrap .i64 ((IntKind.wrap .i64 ((IntKind.wrap .i64 ((IntKind.wrap .i64 ((IntKind.wrap .i64 ((IntKind.wrap .i64 (x0 + (1 : Int))) + (1 : Int))) + (1 : Int))) + (1 : Int))) + (1 : Int))) + (1 : Int))), (List.getD s5 (Int.toNat x1) ((0 : Int), ((0 : Int), ((0 : Int), ((0 : Int), ((0 : Int), (false, (((0 : Int), (((0 : Int), ((0 : Int), (([] : List Int), ()))), ())), ())))))))).2.2.2.2.2.2.1.2), (List.getD s5 (Int.toNat x1) ((0 : Int), ((0 : Int), ((0 : Int), ((0 : Int), ((0 : Int), (false, (((0 : Int), (((0 : Int), ((0 : Int), (([] : List Int), ()))), ())), ())))))))).2.2.2.2.2.2.2)) fun s6 =>
                    bif (Go.Dn.inB x1 (((List.length s6) : Nat) : Int)) then
                    (Go.Dn.share (List.set s6 (Int.toNat x1) ((List.getD s6 (Int.toNat x1) ((0 : Int), ((0 : Int), ((0 : Int), ((0 : Int), ((0 : Int), (false, (((0 : Int), (((0 : Int), ((0 : Int), (([] : List Int), ()))), ())), ())))))))).1, (List.getD s6 (Int.toNat x1) ((0 : Int), ((0 : Int), ((0 : Int), ((0 : Int), ((0 : Int), (false, (((0 : Int), (((0 : Int), ((0 : Int), (([] : List Int), ()))), ())), ())))))))).2.1, (List.getD s6 (Int.toNat x1) ((0 : Int), ((0 : Int), ((0 : Int), ((0 : Int), ((0 : Int), (false, (((0 : Int), (((0 : Int), ((0 : Int), (([] : List Int), ()))), ())), ())))))))).2.2.1, (List.getD s6 (Int.toNat x1) ((0 : Int), ((0 : Int), ((0 : Int), ((0 : Int), ((0 : Int), (false, (((0 : Int), (((0 : Int), ((0 : Int), (([] : List Int), ()))), ())), ())))))))).2.2.2.1, (List.getD s6 (Int.toNat x1) ((0 : Int), ((0 : Int), ((0 : Int), ((0 : Int), ((0 : Int), (false, (((0 : Int), (((0 : Int), ((0 : Int), (([] : List Int), ()))), ())), ())))))))).2.2.2.2.1, (List.getD s6 (Int.toNat x1) ((0 : Int), ((0 : Int), ((0 : Int), ((0 : Int), ((0 : Int), (false, (((0 : Int), (((0 : Int), ((0 : Int), (([] : List Int), ()))), ())), ())))))))).2.2.2.2.2.1, ((List.getD s6 (Int.toNat x1) ((0 : Int), ((0 : Int), ((0 : Int), ((0 : Int), ((0 : Int), (false, (((0 : Int), (((0 : Int), ((0 : Int), (([] : List Int), ()))), ())), ())))))))).2.2.2.2.2.2.1.1, ((IntKind.wrap .i64 ((IntKind.wrap .i64 ((IntKind.wrap .i64 ((IntKind.wrap .i64 ((IntKind.wrap .i64 ((IntKind.wrap .i64 ((IntKind.wrap .i64 (x0 + (1 : Int))) + (1 : Int))) + (1 : Int))) + (1 : Int))) + (1 : Int))) + (1 : Int))) + (1 : Int))), (List.getD s6 (Int.toNat x1) ((0 : Int), ((0 : Int), ((0 : Int), ((0 : Int), ((0 : Int), (false, (((0 : Int), (((0 : Int), ((0 : Int), (([] : List Int), ()))), ())), ())))))))).2.2.2.2.2.2.1.2.1.2), (List.getD s6 (Int.toNat x1) ((0 : Int), ((0 : Int), ((0 : Int), ((0 : Int), ((0 : Int), (false, (((0 : Int), (((0 : Int), ((0 : Int), (([] : List Int), ()))), ())), ())))))))).2.2.2.2.2.2.1.2.2), (List.getD s6 (Int.toNat x1) ((0 : Int), ((0 : Int), ((0 : Int), ((0 : Int), ((0 : Int), (false, (((0 : Int), (((0 : Int), ((0 : Int), (([] : List Int), ()))), ())), ())))))))).2.2.2.2.2.2.2)) fun s7 =>
                      bif (Go.Dn.inB x1 (((List.length s7) : Nat) : Int)) then
                      (Go.Dn.share (List.set s7 (Int.toNat x1) ((List.getD s7 (Int.toNat x1) ((0 : Int), ((0 : Int), ((0 : Int), ((0 : Int), ((0 : Int), (false, (((0 : Int), (((0 : Int), ((0 : Int), (([] : List Int), ()))), ())), ())))))))).1, (List.getD s7 (Int.toNat x1) ((0 : Int), ((0 : Int), ((0 : Int), ((0 : Int), ((0 : Int), (false, (((0 : Int), (((0 : Int), ((0 : Int), (([] : List Int), ()))), ())), ())))))))).2.1, (List.getD s7 (Int.toNat x1) ((0 : Int), ((0 : Int), ((0 : Int), ((0 : Int), ((0 : Int), (false, (((0 : Int), (((0 : Int), ((0 : Int), (([] : List Int), ()))), ())), ())))))))).2.2.1, (List.getD s7 (Int.toNat x1) ((0 : Int), ((0 : Int), ((0 : Int), ((0 : Int), ((0 : Int), (false, (((0 : Int), (((0 : Int), ((0 : Int), (([] : List Int), ()))), ())), ())))))))).2.2.2.1, (List.getD s7 (Int.toNat x1) ((0 : Int), ((0 : Int), ((0 : Int), ((0 : Int), ((0 : Int), (false, (((0 : Int), (((0 : Int), ((0 : Int), (([] : List Int), ()))), ())), ())))))))).2.2.2.2.1, (List.getD s7 (Int.toNat x1) ((0 : Int), ((0 : Int), ((0 : Int), ((0 : Int), ((0 : Int), (false, (((0 : Int), (((0 : Int), ((0 : Int), (([] : List Int), ()))), ())), ())))))))).2.2.2.2.2.1, ((List.getD s7 (Int.toNat x1) ((0 : Int), ((0 : Int), ((0 : Int), ((0 : Int), ((0 : Int), (false, (((0 : Int), (((0 : Int), ((0 : Int), (([] : List Int), ()))), ())), ())))))))).2.2.2.2.2.2.1.1, ((List.getD s7 (Int.toNat x1) ((0 : Int), ((0 : Int), ((0 : Int), ((0 : Int), ((0 : Int), (false, (((0 : Int), (((0 : Int), ((0 : Int), (([] : List Int), ()))), ())), ())))))))).2.2.2.2.2.2.1.2.1.1, (IntKind.wrap .i64 ((IntKind.wrap .i64 ((IntKind.wrap .i64 ((IntKind.wrap .i64 ((IntKind.wrap .i64 ((IntKind.wrap .i64 ((IntKind.wrap .i64 ((IntKind.wrap .i64 (x0 + (1 : Int))) + (1 : Int))) + (1 : Int))) + (1 : Int))) + (1 : Int))) + (1 : Int))) + (1 : Int))) + (1 : Int))), (List.getD s7 (Int.toNat x1) ((0 : Int), ((0 : Int), ((0 : Int), ((0 : Int), ((0 : Int), (false, (((0 : Int), (((0 : Int), ((0 : Int), (([] : List Int), ()))), ())), ())))))))).2.2.2.2.2.2.1.2.1.2.2), (List.getD s7 (Int.toNat x1) ((0 : Int), ((0 : Int), ((0 : Int), ((0 : Int), ((0 : Int), (false, (((0 : Int), (((0 : Int), ((0 : Int), (([] : List Int), ()))), ())), ())))))))).2.2.2.2.2.2.1.2.2), (List.getD s7 (Int.toNat x1) ((0 : Int), ((0 : Int), ((0 : Int), ((0 : Int), ((0 : Int), (false, (((0 : Int), (((0 : Int), ((0 : Int), (([] : List Int), ()))), ())), ())))))))).2.2.2.2.2.2.2)) fun s8 =>
                        bif (Go.Dn.inB x1 (((List.length s8) : Nat) : Int)) then
                        ((laws_markByteS.F k ((List.getD s8 (Int.toNat x1) ((0 : Int), ((0 : Int), ((0 : Int), ((0 : Int), ((0 : Int), (false, (((0 : Int), (((0 : Int), ((0 : Int), (([] : List Int), ()))), ())), ())))))))).2.2.2.2.2.2.1.2.1.2.2.1, (IntKind.wrap .i64 ((IntKind.wrap .i64 ((IntKind.wrap .i64 ((IntKind.wrap .i64 ((IntKind.wrap .i64 ((IntKind.wrap .i64 ((IntKind.wrap .i64 ((IntKind.wrap .i64 ((IntKind.wrap .i64 (x0 + (1 : Int))) + (1 : Int))) + (1 : Int))) + (1 : Int))) + (1 : Int))) + (1 : Int))) + (1 : Int))) + (1 : Int))) + (1 : Int))), ())).bind fun y9 =>
                          Go.Dn.share (List.set s8 (Int.toNat x1) ((List.getD s8 (Int.toNat x1) ((0 : Int), ((0 : Int), ((0 : Int), ((0 : Int), ((0 : Int), (false, (((0 : Int), (((0 : Int), ((0 : Int), (([] : List Int), ()))), ())), ())))))))).1, (List.getD s8 (Int.toNat x1) ((0 : Int), ((0 : Int), ((0 : Int), ((0 : Int), ((0 : Int), (false, (((0 : Int), (((0 : Int), ((0 : Int), (([] : List Int), ()))), ())), ())))))))).2.1, (List.getD s8 (Int.toNat x1) ((0 : Int), ((0 : Int), ((0 : Int), ((0 : Int), ((0 : Int), (false, (((0 : Int), (((0 : Int), ((0 : Int), (([] : List Int), ()))), ())), ())))))))).2.2.1, (List.getD s8 (Int.toNat x1) ((0 : Int), ((0 : Int), ((0 : Int), ((0 : Int), ((0 : Int), (false, (((0 : Int), (((0 : Int), ((0 : Int), (([] : List Int), ()))), ())), ())))))))).2.2.2.1, (List.getD s8 (Int.toNat x1) ((0 : Int), ((0 : Int), ((0 : Int), ((0 : Int), ((0 : Int), (false, (((0 : Int), (((0 : Int), ((0 : Int), (([] : List Int), ()))), ())), ())))))))).2.2.2.2.1, (List.getD s8 (Int.toNat x1) ((0 : Int), ((0 : Int), ((0 : Int), ((0 : Int), ((0 : Int), (false, (((0 : Int), (((0 : Int), ((0 : Int), (([] : List Int), ()))), ())), ())))))))).2.2.2.2.2.1, ((List.getD s8 (Int.toNat x1) ((0 : Int), ((0 : Int), ((0 : Int), ((0 : Int), ((0 : Int), (false, (((0 : Int), (((0 : Int), ((0 : Int), (([] : List Int), ()))), ())), ())))))))).2.2.2.2.2.2.1.1, ((List.getD s8 (Int.toNat x1) ((0 : Int), ((0 : Int), ((0 : Int), ((0 : Int), ((0 : Int), (false, (((0 : Int), (((0 : Int), ((0 : Int), (([] : List Int), ()))), ())), ())))))))).2.2.2.2.2.2.1.2.1.1, (List.getD s8 (Int.toNat x1) ((0 : Int), ((0 : Int), ((0 : Int), ((0 : Int), ((0 : Int), (false, (((0 : Int), (((0 : Int), ((0 : Int), (([] : List Int), ()))), ())), ())))))))).2.2.2.2.2.2.1.2.1.2.1, y9.2.1, (List.getD s8 (Int.toNat x1) ((0 : Int), ((0 : Int), ((0 : Int), ((0 : Int), ((0 : Int), (false, (((0 : Int), (((0 : Int), ((0 : Int), (([] : List Int), ()))), ())), ())))))))).2.2.2.2.2.2.1.2.1.2.2.2), (List.getD s8 (Int.toNat x1) ((0 : Int), ((0 : Int), ((0 : Int), ((0 : Int), ((0 : Int), (false, (((0 : Int), (((0 : Int), ((0 : Int), (([] : List Int), ()))), ())), ())))))))).2.2.2.2.2.2.1.2.2), (List.getD s8 (Int.toNat x1) ((0 : Int), ((0 : Int), ((0 : Int), ((0 : Int), ((0 : Int), (false, (((0 : Int), (((0 : Int), ((0 : Int), (([] : List Int), ()))), ())), ())))))))).2.2.2.2.2.2.2)) fun s10 =>
                          laws_markMailS.l2 k c0 n y9.1.1 (IntKind.wrap .i64 (x1 + (1 : Int))) s10)
                        else none)
                      else none)
                    else none)
                  else none)
                else none)
              else none)
            else none)
          else none)
        else none)
      else none)
    else c0 (x0, x2, ())
def laws_markMailS.F (k : Nat) (x : ((List (Int × (Int × (Int × (Int × (Int × (Bool × ((Int × ((Int × (Int × ((List Int) × Unit))) × Unit)) × Unit)))))))) × (Int × Unit))) : Option ((Int × Unit) × ((List (Int × (Int × (Int × (Int × (Int × (Bool × ((Int × ((Int × (Int × ((List Int) × Unit))) × Unit)) × Unit)))))))) × Unit)) :=
  laws_markMailS.l2 k (fun e11 =>
    some ((e11.1, ()), e11.2)) k x.2.1 (0 : Int) x.1
def laws_markMailS.hd : Hints := ⟨[(2, ⟨[0, 1, 5], []⟩)], [(0, [1]), (1, [0, 1, 5])], [4], [0, 1, 5], []⟩
def laws_markMailS.lps (k : Nat) : List (Nat × Lp laws_markMailS.sg.Out) := [(2, ⟨[.i, .i, .l kMail], fun x => (fun x0 x1 x2 => ⟨[(0, .v false [.arr 0]), (1, .v false [.int .i64 x0]), (5, .v false [.int .i64 x1])], [(0, .arr kMail true false x2)], [.arr 0]⟩) x.1 x.2.1 x.2.2.1, fun C n x => laws_markMailS.l2 k (fun y => C (.exit 0) ((fun y0 y1 => ⟨[(1, .v false [.int .i64 y0])], [(0, .arr kMail true false y1)], [.arr 0]⟩) y.1 y.2.1)) n x.1 x.2.1 x.2.2.1⟩)]
theorem laws_markMailS.loops (k : Nat) : LoopsOk laws_markMailS.E k laws_markMailS.hd (laws_markMailS.lps k) (loopsOf (Go.Proofs.Try.f135.body.getD .skip)) := ⟨⟨fun _ _ => rfl, fun _ _ _ => by kernel_rfl, fun _ => ⟨rfl, rfl⟩⟩, trivial⟩
theorem laws_markMailS.den (k : Nat) (x : Sig.In laws_markMailS.sg.ps) : denFn laws_markMailS.E k Go.Proofs.Try.f135 laws_markMailS.sg laws_markMailS.hd (runL k laws_markMailS.hd (laws_markMailS.lps k)) x = laws_markMailS.F k x := by kernel_rfl
theorem laws_markMailS.ok (k : Nat) : Contract Try.prog 135 laws_markMailS.sg (laws_markMailS.F k) := ok_of (E := laws_markMailS.E) (tysOk _ _) (eqsOk _) ⟨laws_markByteS.ok k, trivial⟩ Try.func135 rfl (by kernel_rfl) (laws_markMailS.loops k) (laws_markMailS.den k)
def laws_markNodeResult.sg : Sig := ⟨[.m kNodeResult, .b (.int .i64)], [((.int .i64), .rd)]⟩
def laws_markNodeResult.E : Env := ⟨tys, bys, [(37, ⟨laws_markNode.sg, laws_markNode.F⟩), (135, ⟨laws_markMailS.sg, laws_markMailS.F⟩)], eqs⟩
def laws_markNodeResult.F (k : Nat) (x : ((Int × ((Int × (Bool × (Int × (Int × ((List (Int × ((Int × (Int × ((List Int) × Unit))) × Unit))) × (Int × (Int × (Int × (Int × Unit))))))))) × ((List (Int × (Int × (Int × (Int × (Int × (Bool × ((Int × ((Int × (Int × ((List Int) × Unit))) × Unit)) × Unit)))))))) × Unit))) × (Int × Unit))) : Option ((Int × Unit) × ((Int × ((Int × (Bool × (Int × (Int × ((List (Int × ((Int × (Int × ((List Int) × Unit))) × Unit))) × (Int × (Int × (Int × (Int × Unit))))))))) × ((List (Int × (Int × (Int × (Int × (Int × (Bool × ((Int × ((Int × (Int × ((List Int) × Unit))) × Unit)) × Unit)))))))) × Unit))) × Unit)) :=
  (laws_markNode.F k (x.1.2.1, x.2)).bind fun y0 =>
  (laws_markMailS.F k (x.1.2.2.1, y0.1)).bind fun y1 =>
  some (y1.1, (x.1.1, (x.1.2.1.1, x.1.2.1.2.1, x.1.2.1.2.2.1, x.1.2.1.2.2.2.1, y0.2.1.2.2.2.2.1, x.1.2.1.2.2.2.2.2), y1.2), ())
def laws_markNodeResult.hd : Hints := ⟨[], [], [4], [0, 1, 2], []⟩
def laws_markNodeResult.lps (k : Nat) : List (Nat × Lp laws_markNodeResult.sg.Out) := []
theorem laws_markNodeResult.loops (k : Nat) : LoopsOk laws_markNodeResult.E k laws_markNodeResult.hd (laws_markNodeResult.lps k) (loopsOf (Go.Proofs.Try.f39.body.getD .skip)) := trivial
theorem laws_markNodeResult.den (k : Nat) (x : Sig.In laws_markNodeResult.sg.ps) : denFn laws_markNodeResult.E k Go.Proofs.Try.f39 laws_markNodeResult.sg laws_markNodeResult.hd (runL k laws_markNodeResult.hd (laws_markNodeResult.lps k)) x = laws_markNodeResult.F k x := by kernel_rfl
theorem laws_markNodeResult.ok (k : Nat) : Contract Try.prog 39 laws_markNodeResult.sg (laws_markNodeResult.F k) := ok_of (E := laws_markNodeResult.E) (tysOk _ _) (eqsOk _) ⟨laws_markNode.ok k, laws_markMailS.ok k, trivial⟩ Try.func39 rfl (by kernel_rfl) (laws_markNodeResult.loops k) (laws_markNodeResult.den k)
def laws_heldByteS.sg : Sig := ⟨[.b (.sl (.int .u8)), .b (.int .i64)], [((.int .i64), .rd)]⟩
def laws_heldByteS.E : Env := ⟨tys, bys, [], eqs⟩
def laws_heldByteS.l2 {ρ : Type} (k : Nat) (c0 : (Int × Unit) → Option ρ) (c1 : (Int × Unit) → Option ρ) : Nat → List Int → Int → Int → Option ρ
  | 0 => fun _ _ _ => none
  | n + 1 => fun x0 x1 x2 => 
    bif (decide ((x2 < (((List.length x0) : Nat) : Int)))) then
    (bif (Go.Dn.inB x2 (((List.length x0) : Nat) : Int)) then
      (Go.Dn.share (List.getD x0 (Int.toNat x2) (0 : Int)) fun s0 =>
        bif (s0 != (IntKind.wrap .u8 x1)) then
        (c0 ((-(1 : Int)), ()))
        else laws_heldByteS.l2 k c0 c1 n x0 (IntKind.wrap .i64 (x1 + (1 : Int))) (IntKind.wrap .i64 (x2 + (1 : Int))))
      else none)
    else c1 (x1, ())
def laws_heldByteS.F (k : Nat) (x : ((List Int) × (Int × Unit))) : Option ((Int × Unit) × Unit) :=
  laws_heldByteS.l2 k (fun e1 =>
    some (e1, ())) (fun e2 =>
    some (e2, ())) k x.1 x.2.1 (0 : Int)
def laws_heldByteS.hd : Hints := ⟨[(2, ⟨[0, 1, 5], []⟩)], [(0, [1]), (1, [0, 1, 5])], [4], [0, 1, 5], []⟩
def laws_heldByteS.lps (k : Nat) : List (Nat × Lp laws_heldByteS.sg.Out) := [(2, ⟨[.l (.int .u8), .i, .i], fun x => (fun x0 x1 x2 => ⟨[(0, .v false [.fz (.int .u8) x0]), (1, .v false [.int .i64 x1]), (5, .v false [.int .i64 x2])], [], []⟩) x.1 x.2.1 x.2.2.1, fun C n x => laws_heldByteS.l2 k (fun y => C .ret ((fun y0 => ⟨[(4, .v false [.int .i64 y0])], [], []⟩) y.1)) (fun y => C (.exit 0) ((fun y0 => ⟨[(1, .v false [.int .i64 y0])], [], []⟩) y.1)) n x.1 x.2.1 x.2.2.1⟩)]
theorem laws_heldByteS.loops (k : Nat) : LoopsOk laws_heldByteS.E k laws_heldByteS.hd (laws_heldByteS.lps k) (loopsOf (Go.Proofs.Try.f160.body.getD .skip)) := ⟨⟨fun _ _ => rfl, fun _ _ _ => by kernel_rfl, fun _ => ⟨rfl, rfl⟩⟩, trivial⟩
theorem laws_heldByteS.den (k : Nat) (x : Sig.In laws_heldByteS.sg.ps) : denFn laws_heldByteS.E k Go.Proofs.Try.f160 laws_heldByteS.sg laws_heldByteS.hd (runL k laws_heldByteS.hd (laws_heldByteS.lps k)) x = laws_heldByteS.F k x := by kernel_rfl
theorem laws_heldByteS.ok (k : Nat) : Contract Try.prog 160 laws_heldByteS.sg (laws_heldByteS.F k) := ok_of (E := laws_heldByteS.E) (tysOk _ _) (eqsOk _) trivial Try.func160 rfl (by kernel_rfl) (laws_heldByteS.loops k) (laws_heldByteS.den k)
def laws_heldEntryS.sg : Sig := ⟨[.b (.sl kEntry), .b (.int .i64)], [((.int .i64), .rd)]⟩
def laws_heldEntryS.E : Env := ⟨tys, bys, [(160, ⟨laws_heldByteS.sg, laws_heldByteS.F⟩)], eqs⟩
def laws_heldEntryS.l2 {ρ : Type} (k : Nat) (c0 : (Int × Unit) → Option ρ) (c1 : (Int × Unit) → Option ρ) : Nat → List (Int × ((Int × (Int × ((List Int) × Unit))) × Unit)) → Int → Int → Option ρ
  | 0 => fun _ _ _ => none
  | n + 1 => fun x0 x1 x2 => 
    bif (decide ((x2 < (((List.length x0) : Nat) : Int)))) then
    (bif (Go.Dn.inB x2 (((List.length x0) : Nat) : Int)) then
      (Go.Dn.share (List.getD x0 (Int.toNat x2) ((0 : Int), (((0 : Int), ((0 : Int), (([] : List Int), ()))), ()))) fun s0 =>
        bif (s0.1 != x1) then
        (c0 ((-(1 : Int)), ()))
        else bif (Go.Dn.inB x2 (((List.length x0) : Nat) : Int)) then
          (Go.Dn.share (List.getD x0 (Int.toNat x2) ((0 : Int), (((0 : Int), ((0 : Int), (([] : List Int), ()))), ()))) fun s1 =>
            bif (s1.2.1.1 != (IntKind.wrap .i64 (x1 + (1 : Int)))) then
            (c0 ((-(1 : Int)), ()))
            else bif (Go.Dn.inB x2 (((List.length x0) : Nat) : Int)) then
              (Go.Dn.share (List.getD x0 (Int.toNat x2) ((0 : Int), (((0 : Int), ((0 : Int), (([] : List Int), ()))), ()))) fun s2 =>
                bif (s2.2.1.2.1 != (IntKind.wrap .i64 ((IntKind.wrap .i64 (x1 + (1 : Int))) + (1 : Int)))) then
                (c0 ((-(1 : Int)), ()))
                else bif (Go.Dn.inB x2 (((List.length x0) : Nat) : Int)) then
                  (Go.Dn.share (List.getD x0 (Int.toNat x2) ((0 : Int), (((0 : Int), ((0 : Int), (([] : List Int), ()))), ()))) fun s3 =>
                    (laws_heldByteS.F k (s3.2.1.2.2.1, (IntKind.wrap .i64 ((IntKind.wrap .i64 ((IntKind.wrap .i64 (x1 + (1 : Int))) + (1 : Int))) + (1 : Int))), ())).bind fun y4 =>
                    bif (decide ((y4.1.1 < (0 : Int)))) then
                    (c0 ((-(1 : Int)), ()))
                    else laws_heldEntryS.l2 k c0 c1 n x0 y4.1.1 (IntKind.wrap .i64 (x2 + (1 : Int))))
                  else none)
              else none)
          else none)
      else none)
    else c1 (x1, ())
def laws_heldEntryS.F (k : Nat) (x : ((List (Int × ((Int × (Int × ((List Int) × Unit))) × Unit))) × (Int × Unit))) : Option ((Int × Unit) × Unit) :=
  laws_heldEntryS.l2 k (fun e5 =>
    some (e5, ())) (fun e6 =>
    some (e6, ())) k x.1 x.2.1 (0 : Int)
def laws_heldEntryS.hd : Hints := ⟨[(2, ⟨[0, 1, 5], []⟩)], [(0, [1]), (1, [0, 1, 5])], [4], [0, 1, 5], []⟩
def laws_heldEntryS.lps (k : Nat) : List (Nat × Lp laws_heldEntryS.sg.Out) := [(2, ⟨[.l kEntry, .i, .i], fun x => (fun x0 x1 x2 => ⟨[(0, .v false [.fz kEntry x0]), (1, .v false [.int .i64 x1]), (5, .v false [.int .i64 x2])], [], []⟩) x.1 x.2.1 x.2.2.1, fun C n x => laws_heldEntryS.l2 k (fun y => C .ret ((fun y0 => ⟨[(4, .v false [.int .i64 y0])], [], []⟩) y.1)) (fun y => C (.exit 0) ((fun y0 => ⟨[(1, .v false [.int .i64 y0])], [], []⟩) y.1)) n x.1 x.2.1 x.2.2.1⟩)]
theorem laws_heldEntryS.loops (k : Nat) : LoopsOk laws_heldEntryS.E k laws_heldEntryS.hd (laws_heldEntryS.lps k) (loopsOf (Go.Proofs.Try.f241.body.getD .skip)) := ⟨⟨fun _ _ => rfl, fun _ _ _ => by kernel_rfl, fun _ => ⟨rfl, rfl⟩⟩, trivial⟩
theorem laws_heldEntryS.den (k : Nat) (x : Sig.In laws_heldEntryS.sg.ps) : denFn laws_heldEntryS.E k Go.Proofs.Try.f241 laws_heldEntryS.sg laws_heldEntryS.hd (runL k laws_heldEntryS.hd (laws_heldEntryS.lps k)) x = laws_heldEntryS.F k x := by kernel_rfl
theorem laws_heldEntryS.ok (k : Nat) : Contract Try.prog 241 laws_heldEntryS.sg (laws_heldEntryS.F k) := ok_of (E := laws_heldEntryS.E) (tysOk _ _) (eqsOk _) ⟨laws_heldByteS.ok k, trivial⟩ Try.func241 rfl (by kernel_rfl) (laws_heldEntryS.loops k) (laws_heldEntryS.den k)
def laws_heldNode.sg : Sig := ⟨[.b kNode, .b (.int .i64)], [((.int .i64), .rd)]⟩
def laws_heldNode.E : Env := ⟨tys, bys, [(241, ⟨laws_heldEntryS.sg, laws_heldEntryS.F⟩)], eqs⟩
def laws_heldNode.F (k : Nat) (x : ((Int × (Bool × (Int × (Int × ((List (Int × ((Int × (Int × ((List Int) × Unit))) × Unit))) × (Int × (Int × (Int × (Int × Unit))))))))) × (Int × Unit))) : Option ((Int × Unit) × Unit) :=
  (laws_heldEntryS.F k (x.1.2.2.2.2.1, x.2)).bind fun y0 =>
  bif (decide ((y0.1.1 < (0 : Int)))) then
  (some (((-(1 : Int)), ()), ()))
  else some y0
def laws_heldNode.hd : Hints := ⟨[], [], [4], [0, 1, 2], []⟩
def laws_heldNode.lps (k : Nat) : List (Nat × Lp laws_heldNode.sg.Out) := []
theorem laws_heldNode.loops (k : Nat) : LoopsOk laws_heldNode.E k laws_heldNode.hd (laws_heldNode.lps k) (loopsOf (Go.Proofs.Try.f136.body.getD .skip)) := trivial
theorem laws_heldNode.den (k : Nat) (x : Sig.In laws_heldNode.sg.ps) : denFn laws_heldNode.E k Go.Proofs.Try.f136 laws_heldNode.sg laws_heldNode.hd (runL k laws_heldNode.hd (laws_heldNode.lps k)) x = laws_heldNode.F k x := by kernel_rfl
theorem laws_heldNode.ok (k : Nat) : Contract Try.prog 136 laws_heldNode.sg (laws_heldNode.F k) := ok_of (E := laws_heldNode.E) (tysOk _ _) (eqsOk _) ⟨laws_heldEntryS.ok k, trivial⟩ Try.func136 rfl (by kernel_rfl) (laws_heldNode.loops k) (laws_heldNode.den k)
def laws_heldMailS.sg : Sig := ⟨[.b (.sl kMail), .b (.int .i64)], [((.int .i64), .rd)]⟩
def laws_heldMailS.E : Env := ⟨tys, bys, [(160, ⟨laws_heldByteS.sg, laws_heldByteS.F⟩)], eqs⟩
def laws_heldMailS.l2 {ρ : Type} (k : Nat) (c0 : (Int × Unit) → Option ρ) (c1 : (Int × Unit) → Option ρ) : Nat → List (Int × (Int × (Int × (Int × (Int × (Bool × ((Int × ((Int × (Int × ((List Int) × Unit))) × Unit)) × Unit))))))) → Int → Int → Option ρ
  | 0 => fun _ _ _ => none
  | n + 1 => fun x0 x1 x2 => 
    bif (decide ((x2 < (((List.length x0) : Nat) : Int)))) then
    (bif (Go.Dn.inB x2 (((List.length x0) : Nat) : Int)) then
      (Go.Dn.share (List.getD x0 (Int.toNat x2) ((0 : Int), ((0 : Int), ((0 : Int), ((0 : Int), ((0 : Int), (false, (((0 : Int), (((0 : Int), ((0 : Int), (([] : List Int), ()))), ())), ())))))))) fun s0 =>
        bif (s0.1 != x1) then
        (c0 ((-(1 : Int)), ()))
        else bif (Go.Dn.inB x2 (((List.length x0) : Nat) : Int)) then
          (Go.Dn.share (List.getD x0 (Int.toNat x2) ((0 : Int), ((0 : Int), ((0 : Int), ((0 : Int), ((0 : Int), (false, (((0 : Int), (((0 : Int), ((0 : Int), (([] : List Int), ()))), ())), ())))))))) fun s1 =>
            bif (s1.2.1 != (IntKind.wrap .i64 (x1 + (1 : Int)))) then
            (c0 ((-(1 : Int)), ()))
            else bif (Go.Dn.inB x2 (((List.length x0) : Nat) : Int)) then
              (Go.Dn.share (List.getD x0 (Int.toNat x2) ((0 : Int), ((0 : Int), ((0 : Int), ((0 : Int), ((0 : Int), (false, (((0 : Int), (((0 : Int), ((0 : Int), (([] : List Int), ()))), ())), ())))))))) fun s2 =>
                bif (s2.2.2.1 != (IntKind.wrap .i64 ((IntKind.wrap .i64 (x1 + (1 : Int))) + (1 : Int)))) then
                (c0 ((-(1 : Int)), ()))
                else bif (Go.Dn.inB x2 (((List.length x0) : Nat) : Int)) then
                  (Go.Dn.share (List.getD x0 (Int.toNat x2) ((0 : Int), ((0 : Int), ((0 : Int), ((0 : Int), ((0 : Int), (false, (((0 : Int), (((0 : Int), ((0 : Int), (([] : List Int), ()))), ())), ())))))))) fun s3 =>
                    bif (s3.2.2.2.1 != (IntKind.wrap .i64 ((IntKind.wrap .i64 ((IntKind.wrap .i64 (x1 + (1 : Int))) + (1 : Int))) + (1 : Int)))) then
                    (c0 ((-(1 : Int)), ()))
                    else bif (Go.Dn.inB x2 (((List.length x0) : Nat) : Int)) then
                      (Go.Dn.share (List.getD x0 (Int.toNat x2) ((0 : Int), ((0 : Int), ((0 : Int), ((0 : Int), ((0 : Int), (false, (((0 : Int), (((0 : Int), ((0 : Int), (([] : List Int), ()))), ())), ())))))))) fun s4 =>
                        bif (s4.2.2.2.2.1 != (IntKind.wrap .i64 ((IntKind.wrap .i64 ((IntKind.wrap .i64 ((IntKind.wrap .i64 (x1 + (1 : Int))) + (1 : Int))) + (1 : Int))) + (1 : Int)))) then
                        (c0 ((-(1 : Int)), ()))
                        else bif (Go.Dn.inB x2 (((List.length x0) : Nat) : Int)) then
                          (Go.Dn.share (List.getD x0 (Int.toNat x2) ((0 : Int), ((0 : Int), ((0 : Int), ((0 : Int), ((0 : Int), (false, (((0 : Int), (((0 : Int), ((0 : Int), (([] : List Int), ()))), ())), ())))))))) fun s5 =>
                            bif (!(s5.2.2.2.2.2.1 == ((Int.tmod (IntKind.wrap .i64 ((IntKind.wrap .i64 ((IntKind.wrap .i64 ((IntKind.wrap .i64 ((IntKind.wrap .i64 (x1 + (1 : Int))) + (1 : Int))) + (1 : Int))) + (1 : Int))) + (1 : Int))) (3 : Int)) == (0 : Int)))) then
                            (c0 ((-(1 : Int)), ()))
                            else bif (Go.Dn.inB x2 (((List.length x0) : Nat) : Int)) then
                              (Go.Dn.share (List.getD x0 (Int.toNat x2) ((0 : Int), ((0 : Int), ((0 : Int), ((0 : Int), ((0 : Int), (false, (((0 : Int), (((0 : Int), ((0 : Int), (([] : List Int), ()))), ())), ())))))))) fun s6 =>
                                bif (s6.2.2.2.2.2.2.1.1 != (IntKind.wrap .i64 ((IntKind.wrap .i64 ((IntKind.wrap .i64 ((IntKind.wrap .i64 ((IntKind.wrap .i64 ((IntKind.wrap .i64 (x1 + (1 : Int))) + (1 : Int))) + (1 : Int))) + (1 : Int))) + (1 : Int))) + (1 : Int)))) then
                                (c0 ((-(1 : Int)), ()))
                                else bif (Go.Dn.inB x2 (((List.length x0) : Nat) : Int)) then
                                  (Go.Dn.share (List.getD x0 (Int.toNat x2) ((0 : Int), ((0 : Int), ((0 : Int), ((0 : Int), ((0 : Int), (false, (((0 : Int), (((0 : Int), ((0 : Int), (([] : List Int), ()))), ())), ())))))))) fun s7 =>
                                    bif (s7.2.2.2.2.2.2.1.2.1.1 != (IntKind.wrap .i64 ((IntKind.wrap .i64 ((IntKind.wrap .i64 ((IntKind.wrap .i64 ((IntKind.wrap .i64 ((IntKind.wrap .i64 ((IntKind.wrap .i64 (x1 + (1 : Int))) + (1 : Int))) + (1 : Int))) + (1 : Int))) + (1 : Int))) + (1 : Int))) + (1 : Int)))) then
                                    (c0 ((-(1 : Int)), ()))
                                    else bif (Go.Dn.inB x2 (((List.length x0) : Nat) : Int)) then
                                      (Go.Dn.share (List.getD x0 (Int.toNat x2) ((0 : Int), ((0 : Int), ((0 : Int), ((0 : Int), ((0 : Int), (false, (((0 : Int), (((0 : Int), ((0 : Int), (([] : List Int), ()))), ())), ())))))))) fun s8 =>
                                        bif (s8.2.2.2.2.2.2.1.2.1.2.1 != (IntKind.wrap .i64 ((IntKind.wrap .i64 ((IntKind.wrap .i64 ((IntKind.wrap .i64 ((IntKind.wrap .i64 ((IntKind.wrap .i64 ((IntKind.wrap .i64 ((IntKind.wrap .i64 (x1 + (1 : Int))) + (1 : Int))) + (1 : Int))) + (1 : Int))) + (1 : Int))) + (1 : Int))) + (1 : Int))) + (1 : Int)))) then
                                        (c0 ((-(1 : Int)), ()))
                                        else bif (Go.Dn.inB x2 (((List.length x0) : Nat) : Int)) then
                                          (Go.Dn.share (List.getD x0 (Int.toNat x2) ((0 : Int), ((0 : Int), ((0 : Int), ((0 : Int), ((0 : Int), (false, (((0 : Int), (((0 : Int), ((0 : Int), (([] : List Int), ()))), ())), ())))))))) fun s9 =>
                                            (laws_heldByteS.F k (s9.2.2.2.2.2.2.1.2.1.2.2.1, (IntKind.wrap .i64 ((IntKind.wrap .i64 ((IntKind.wrap .i64 ((IntKind.wrap .i64 ((IntKind.wrap .i64 ((IntKind.wrap .i64 ((IntKind.wrap .i64 ((IntKind.wrap .i64 ((IntKind.wrap .i64 (x1 + (1 : Int))) + (1 : Int))) + (1 : Int))) + (1 : Int))) + (1 : Int))) + (1 : Int))) + (1 : Int))) + (1 : Int))) + (1 : Int))), ())).bind fun y10 =>
                                            bif (decide ((y10.1.1 < (0 : Int)))) then
                                            (c0 ((-(1 : Int)), ()))
                                            else laws_heldMailS.l2 k c0 c1 n x0 y10.1.1 (IntKind.wrap .i64 (x2 + (1 : Int))))
                                          else none)
                                      else none)
                                  else none)
                              else none)
                          else none)
                      else none)
                  else none)
              else none)
          else none)
      else none)
    else c1 (x1, ())
def laws_heldMailS.F (k : Nat) (x : ((List (Int × (Int × (Int × (Int × (Int × (Bool × ((Int × ((Int × (Int × ((List Int) × Unit))) × Unit)) × Unit)))))))) × (Int × Unit))) : Option ((Int × Unit) × Unit) :=
  laws_heldMailS.l2 k (fun e11 =>
    some (e11, ())) (fun e12 =>
    some (e12, ())) k x.1 x.2.1 (0 : Int)
def laws_heldMailS.hd : Hints := ⟨[(2, ⟨[0, 1, 5], []⟩)], [(0, [1]), (1, [0, 1, 5])], [4], [0, 1, 5], []⟩
def laws_heldMailS.lps (k : Nat) : List (Nat × Lp laws_heldMailS.sg.Out) := [(2, ⟨[.l kMail, .i, .i], fun x => (fun x0 x1 x2 => ⟨[(0, .v false [.fz kMail x0]), (1, .v false [.int .i64 x1]), (5, .v false [.int .i64 x2])], [], []⟩) x.1 x.2.1 x.2.2.1, fun C n x => laws_heldMailS.l2 k (fun y => C .ret ((fun y0 => ⟨[(4, .v false [.int .i64 y0])], [], []⟩) y.1)) (fun y => C (.exit 0) ((fun y0 => ⟨[(1, .v false [.int .i64 y0])], [], []⟩) y.1)) n x.1 x.2.1 x.2.2.1⟩)]
theorem laws_heldMailS.loops (k : Nat) : LoopsOk laws_heldMailS.E k laws_heldMailS.hd (laws_heldMailS.lps k) (loopsOf (Go.Proofs.Try.f137.body.getD .skip)) := ⟨⟨fun _ _ => rfl, fun _ _ _ => by kernel_rfl, fun _ => ⟨rfl, rfl⟩⟩, trivial⟩
theorem laws_heldMailS.den (k : Nat) (x : Sig.In laws_heldMailS.sg.ps) : denFn laws_heldMailS.E k Go.Proofs.Try.f137 laws_heldMailS.sg laws_heldMailS.hd (runL k laws_heldMailS.hd (laws_heldMailS.lps k)) x = laws_heldMailS.F k x := by kernel_rfl
theorem laws_heldMailS.ok (k : Nat) : Contract Try.prog 137 laws_heldMailS.sg (laws_heldMailS.F k) := ok_of (E := laws_heldMailS.E) (tysOk _ _) (eqsOk _) ⟨laws_heldByteS.ok k, trivial⟩ Try.func137 rfl (by kernel_rfl) (laws_heldMailS.loops k) (laws_heldMailS.den k)
def laws_heldNodeResult.sg : Sig := ⟨[.b kNodeResult, .b (.int .i64)], [((.int .i64), .rd)]⟩
def laws_heldNodeResult.E : Env := ⟨tys, bys, [(136, ⟨laws_heldNode.sg, laws_heldNode.F⟩), (137, ⟨laws_heldMailS.sg, laws_heldMailS.F⟩)], eqs⟩
def laws_heldNodeResult.F (k : Nat) (x : ((Int × ((Int × (Bool × (Int × (Int × ((List (Int × ((Int × (Int × ((List Int) × Unit))) × Unit))) × (Int × (Int × (Int × (Int × Unit))))))))) × ((List (Int × (Int × (Int × (Int × (Int × (Bool × ((Int × ((Int × (Int × ((List Int) × Unit))) × Unit)) × Unit)))))))) × Unit))) × (Int × Unit))) : Option ((Int × Unit) × Unit) :=
  (laws_heldNode.F k (x.1.2.1, x.2)).bind fun y0 =>
  bif (decide ((y0.1.1 < (0 : Int)))) then
  (some (((-(1 : Int)), ()), ()))
  else (laws_heldMailS.F k (x.1.2.2.1, y0.1)).bind fun y1 =>
    bif (decide ((y1.1.1 < (0 : Int)))) then
    (some (((-(1 : Int)), ()), ()))
    else some y1
def laws_heldNodeResult.hd : Hints := ⟨[], [], [4], [0, 1, 2], []⟩
def laws_heldNodeResult.lps (k : Nat) : List (Nat × Lp laws_heldNodeResult.sg.Out) := []
theorem laws_heldNodeResult.loops (k : Nat) : LoopsOk laws_heldNodeResult.E k laws_heldNodeResult.hd (laws_heldNodeResult.lps k) (loopsOf (Go.Proofs.Try.f40.body.getD .skip)) := trivial
theorem laws_heldNodeResult.den (k : Nat) (x : Sig.In laws_heldNodeResult.sg.ps) : denFn laws_heldNodeResult.E k Go.Proofs.Try.f40 laws_heldNodeResult.sg laws_heldNodeResult.hd (runL k laws_heldNodeResult.hd (laws_heldNodeResult.lps k)) x = laws_heldNodeResult.F k x := by kernel_rfl
theorem laws_heldNodeResult.ok (k : Nat) : Contract Try.prog 40 laws_heldNodeResult.sg (laws_heldNodeResult.F k) := ok_of (E := laws_heldNodeResult.E) (tysOk _ _) (eqsOk _) ⟨laws_heldNode.ok k, laws_heldMailS.ok k, trivial⟩ Try.func40 rfl (by kernel_rfl) (laws_heldNodeResult.loops k) (laws_heldNodeResult.den k)
def laws_FnExactHearMail.sg : Sig := ⟨[.b kNode, .b kMail], [(.bool, .rd)]⟩
def laws_FnExactHearMail.E : Env := ⟨tys, bys, [(20, ⟨impl_HearMail.sg, impl_HearMail.F⟩), (21, ⟨spec_HearMail.sg, spec_HearMail.F⟩), (30, ⟨laws_szNode.sg, laws_szNode.F⟩), (31, ⟨laws_szMail.sg, laws_szMail.F⟩), (32, ⟨laws_toNode.sg, laws_toNode.F⟩), (33, ⟨laws_toMail.sg, laws_toMail.F⟩), (34, ⟨laws_eqNodeResult.sg, laws_eqNodeResult.F⟩), (35, ⟨laws_eqNode.sg, laws_eqNode.F⟩), (36, ⟨laws_eqMail.sg, laws_eqMail.F⟩), (37, ⟨laws_markNode.sg, laws_markNode.F⟩), (38, ⟨laws_markMail.sg, laws_markMail.F⟩), (39, ⟨laws_markNodeResult.sg, laws_markNodeResult.F⟩), (40, ⟨laws_heldNodeResult.sg, laws_heldNodeResult.F⟩)], eqs⟩
def laws_FnExactHearMail.F (k : Nat) (x : ((Int × (Bool × (Int × (Int × ((List (Int × ((Int × (Int × ((List Int) × Unit))) × Unit))) × (Int × (Int × (Int × (Int × Unit))))))))) × ((Int × (Int × (Int × (Int × (Int × (Bool × ((Int × ((Int × (Int × ((List Int) × Unit))) × Unit)) × Unit))))))) × Unit))) : Option ((Bool × Unit) × Unit) :=
  (laws_szNode.F k (x.1, (1048576 : Int), ())).bind fun y0 =>
  bif (decide ((y0.1.1 < (0 : Int)))) then
  (some ((true, ()), ()))
  else (laws_szMail.F k (x.2.1, y0.1)).bind fun y1 =>
    bif (decide ((y1.1.1 < (0 : Int)))) then
    (some ((true, ()), ()))
    else (laws_toNode.F k (x.1, ())).bind fun y2 =>
      (laws_toMail.F k x.2).bind fun y3 =>
      (spec_HearMail.F k (y2.1.1, y3.1)).bind fun y4 =>
      (laws_toNode.F k (x.1, ())).bind fun y5 =>
      (laws_toMail.F k x.2).bind fun y6 =>
      (impl_HearMail.F k (y5.1.1, y6.1)).bind fun y7 =>
      (laws_eqNodeResult.F k (y7.1.1, y4.1)).bind fun y8 =>
      bif (!y8.1.1) then
      (some ((false, ()), ()))
      else (laws_toNode.F k (x.1, ())).bind fun y9 =>
        (laws_eqNode.F k (y5.1.1, y9.1)).bind fun y10 =>
        bif (!y10.1.1) then
        (some ((false, ()), ()))
        else (laws_toMail.F k x.2).bind fun y11 =>
          (laws_eqMail.F k (y6.1.1, y11.1)).bind fun y12 =>
          bif (!y12.1.1) then
          (some ((false, ()), ()))
          else (laws_markNode.F k (y5.1.1, (1 : Int), ())).bind fun y13 =>
            (laws_markMail.F k (y6.1.1, y13.1)).bind fun y14 =>
            bif (decide ((y14.1.1 < (0 : Int)))) then
            (some ((false, ()), ()))
            else (laws_eqNodeResult.F k (y7.1.1, y4.1)).bind fun y15 =>
              bif (!y15.1.1) then
              (some ((false, ()), ()))
              else (laws_markNodeResult.F k (y7.1.1, (1 : Int), ())).bind fun y16 =>
                (laws_heldNodeResult.F k ((y7.1.1.1, (y7.1.1.2.1.1, y7.1.1.2.1.2.1, y7.1.1.2.1.2.2.1, y7.1.1.2.1.2.2.2.1, y16.2.1.2.1.2.2.2.2.1, y7.1.1.2.1.2.2.2.2.2), y16.2.1.2.2), (1 : Int), ())).bind fun y17 =>
                bif (decide ((y17.1.1 < (0 : Int)))) then
                (some ((false, ()), ()))
                else bif (y17.1.1 != y16.1.1) then
                  (some ((false, ()), ()))
                  else (laws_toNode.F k (x.1, ())).bind fun y18 =>
                    (laws_toMail.F k x.2).bind fun y19 =>
                    (impl_HearMail.F k (y18.1.1, y19.1)).bind fun y20 =>
                    (laws_eqNodeResult.F k (y20.1.1, y4.1)).bind fun y21 =>
                    bif (!y21.1.1) then
                    (some ((false, ()), ()))
                    else (laws_heldNodeResult.F k ((y7.1.1.1, (y7.1.1.2.1.1, y7.1.1.2.1.2.1, y7.1.1.2.1.2.2.1, y7.1.1.2.1.2.2.2.1, y16.2.1.2.1.2.2.2.2.1, y7.1.1.2.1.2.2.2.2.2), y16.2.1.2.2), (1 : Int), ())).bind fun y22 =>
                      bif (decide ((y22.1.1 < (0 : Int)))) then
                      (some ((false, ()), ()))
                      else bif (y22.1.1 != y16.1.1) then
                        (some ((false, ()), ()))
                        else some ((true, ()), ())
def laws_FnExactHearMail.hd : Hints := ⟨[], [], [4], [0, 1, 2, 3, 5, 6, 7, 8, 9, 10, 11, 12, 13], [(8, [0, 1, 0, 7, 15, 0, 63]), (14, [0, 0, 2, 7, 15]), (16, [0, 0, 2, 7, 15]), (31, [0, 1, 0, 7, 15, 0, 63])]⟩
def laws_FnExactHearMail.lps (k : Nat) : List (Nat × Lp laws_FnExactHearMail.sg.Out) := []
theorem laws_FnExactHearMail.loops (k : Nat) : LoopsOk laws_FnExactHearMail.E k laws_FnExactHearMail.hd (laws_FnExactHearMail.lps k) (loopsOf (Go.Proofs.Try.f6.body.getD .skip)) := trivial
theorem laws_FnExactHearMail.den (k : Nat) (x : Sig.In laws_FnExactHearMail.sg.ps) : denFn laws_FnExactHearMail.E k Go.Proofs.Try.f6 laws_FnExactHearMail.sg laws_FnExactHearMail.hd (runL k laws_FnExactHearMail.hd (laws_FnExactHearMail.lps k)) x = laws_FnExactHearMail.F k x := by kernel_rfl
theorem laws_FnExactHearMail.ok (k : Nat) : Contract Try.prog 6 laws_FnExactHearMail.sg (laws_FnExactHearMail.F k) := ok_of (E := laws_FnExactHearMail.E) (tysOk _ _) (eqsOk _) ⟨impl_HearMail.ok k, spec_HearMail.ok k, laws_szNode.ok k, laws_szMail.ok k, laws_toNode.ok k, laws_toMail.ok k, laws_eqNodeResult.ok k, laws_eqNode.ok k, laws_eqMail.ok k, laws_markNode.ok k, laws_markMail.ok k, laws_markNodeResult.ok k, laws_heldNodeResult.ok k, trivial⟩ Try.func6 rfl (by kernel_rfl) (laws_FnExactHearMail.loops k) (laws_FnExactHearMail.den k)

end
end Go.Proofs.Ythnidahfdnnboaa
