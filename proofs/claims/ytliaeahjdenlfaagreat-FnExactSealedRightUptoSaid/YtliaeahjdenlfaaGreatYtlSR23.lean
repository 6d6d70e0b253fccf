/- That both nodes of a pair have for sure what is sealed, the program's SealedRight and the reference's SealedRight tell alike, whatever pair there is. -/
import Derived.Test.YtliaeahjdenlfaaGreatProg
import Derived.KernelRfl
import Derived.Test.YtliaeahjdenlfaaGreatYtlSR20
import Derived.Test.YtliaeahjdenlfaaGreatYtlSR21
import Derived.Test.YtliaeahjdenlfaaGreatYtlSR22
set_option linter.unusedVariables false
set_option maxRecDepth 100000
namespace Go.Proofs.YtliaeahjdenlfaaGreat
open Go Go.Dn
noncomputable section
def kerrorAddressString : K := (.pair .str (.pair (.int .u64) .unit))
def kPrefix : K := (.pair (.int .i64) (.pair (.int .i64) .unit))
def kConfig : K := (.pair (.int .i64) kPrefix)
def kboundsError : K := (.pair (.int .i64) (.pair (.int .i64) (.pair .bool (.pair (.int .u8) .unit))))
def kEvent : K := (.pair (.int .i64) (.pair (.int .i64) (.pair (.sl (.int .u8)) .unit)))
def kWire : K := (.pair (.int .i64) (.pair (.sl (.int .u8)) (.pair (.int .i64) (.pair (.sl (.int .u8)) .unit))))
def kAttrs : K := (.pair (.int .i64) (.pair (.sl (.int .i64)) kConfig))
def kEntry : K := (.pair (.int .i64) (.pair kEvent .unit))
def kRule : K := (.pair kPrefix (.pair (.int .i64) (.pair (.int .i64) (.pair (.int .i64) (.pair .bool kPrefix)))))
def kWireResult : K := (.pair (.int .i64) (.pair (.sl (.int .u8)) (.pair kWire .unit)))
def kSettings : K := (.pair kConfig (.pair (.int .i64) (.pair (.sl kRule) (.pair (.sl kRule) .unit))))
def kNode : K := (.pair (.int .i64) (.pair .bool (.pair (.int .i64) (.pair (.int .i64) (.pair (.sl kEntry) (.pair (.int .i64) kConfig))))))
def kMail : K := (.pair (.int .i64) (.pair (.int .i64) (.pair (.int .i64) (.pair (.int .i64) (.pair (.int .i64) (.pair .bool (.pair kEntry .unit)))))))
def kPair : K := (.pair kSettings (.pair (.sl kNode) (.pair (.sl kWire) (.pair (.sl kMail) (.pair (.sl kEntry) .unit)))))
def tys : List (Nat × K) := [(2, (.int .i64)), (3, (.int .i64)), (4, .bool), (5, (.int .u8)), (6, (.int .u8)), (7, kboundsError), (8, kboundsError), (9, .str), (10, .str), (11, .str), (12, (.int .u64)), (13, kerrorAddressString), (14, kerrorAddressString), (21, (.int .i32)), (22, kConfig), (23, kConfig), (24, (.sl kRule)), (25, kSettings), (26, kSettings), (27, (.sl kNode)), (28, (.sl kWire)), (29, (.sl kMail)), (30, (.sl kEntry)), (31, kPair), (32, kPair), (35, kConfig), (36, (.sl kRule)), (37, kSettings), (38, kSettings), (39, (.sl kNode)), (40, (.sl kWire)), (41, (.sl kMail)), (42, (.sl kEntry)), (43, kPair), (44, kPair), (76, kNode), (77, kNode), (79, (.sl (.int .u8))), (80, kWire), (81, kWire), (83, kEvent), (84, kEvent), (85, kEntry), (86, kEntry), (87, kMail), (88, kMail), (92, kWire), (94, kEvent), (95, kEntry), (96, kEntry), (97, kNode), (98, kNode), (103, kMail), (104, kMail), (134, kPrefix), (135, kPrefix), (136, kRule), (137, kRule), (139, kPrefix), (140, kRule), (141, kRule), (157, (.int .u64)), (165, (.int .u32)), (166, (.int .u8)), (167, (.int .u8)), (170, (.int .i32)), (171, (.int .i32)), (179, kWireResult), (180, kWireResult), (181, (.sl (.int .i64))), (182, kAttrs), (183, kAttrs)]
def bys : List (Nat × Nat) := [(24, 64), (27, 88), (28, 64), (29, 96), (30, 48), (36, 64), (39, 88), (40, 64), (41, 96), (42, 48), (79, 1), (181, 8), (56, 1000000007), (118, 1000000007), (122, 1000000007)]
def eqs : List Nat := [23, 35, 135, 139]
theorem tysOk0 : TysOk Tryz.prog ⟨tys, bys, [], []⟩ := tysB_spec (by kernel_rfl)
theorem tysOk (fns : List (Nat × FEnt)) (es : List Nat) : TysOk Tryz.prog ⟨tys, bys, fns, es⟩ := tysOk0
theorem eqsOk0 : EqsOk Tryz.prog ⟨tys, bys, [], eqs⟩ := eqsB_spec tysOk0 (by kernel_rfl)
theorem eqsOk (fns : List (Nat × FEnt)) : EqsOk Tryz.prog ⟨tys, bys, fns, eqs⟩ := eqsOk0
def laws_szRuleS.sg : Sig := ⟨[.b (.sl kRule), .b (.int .i64)], [((.int .i64), .rd)]⟩
def laws_szRuleS.E : Env := ⟨tys, bys, [], eqs⟩
def laws_szRuleS.F (k : Nat) (x : ((List ((Int × (Int × Unit)) × (Int × (Int × (Int × (Bool × (Int × (Int × Unit)))))))) × (Int × Unit))) : Option ((Int × Unit) × Unit) :=
  bif (decide (((IntKind.wrap .i64 (x.2.1 - (((List.length x.1) : Nat) : Int))) < (0 : Int)))) then
  (some (((-(1 : Int)), ()), ()))
  else some (((IntKind.wrap .i64 (x.2.1 - (((List.length x.1) : Nat) : Int))), ()), ())
def laws_szRuleS.hd : Hints := ⟨[], [], [4], [0, 1], []⟩
def laws_szRuleS.lps (k : Nat) : List (Nat × Lp laws_szRuleS.sg.Out) := []
theorem laws_szRuleS.loops (k : Nat) : LoopsOk laws_szRuleS.E k laws_szRuleS.hd (laws_szRuleS.lps k) (loopsOf (Go.Proofs.Tryz.f45.body.getD .skip)) := trivial
theorem laws_szRuleS.den (k : Nat) (x : Sig.In laws_szRuleS.sg.ps) : denFn laws_szRuleS.E k Go.Proofs.Tryz.f45 laws_szRuleS.sg laws_szRuleS.hd (runL k laws_szRuleS.hd (laws_szRuleS.lps k)) x = laws_szRuleS.F k x := by kernel_rfl
theorem laws_szRuleS.ok (k : Nat) : Contract Tryz.prog 45 laws_szRuleS.sg (laws_szRuleS.F k) := ok_of (E := laws_szRuleS.E) (tysOk _ _) (eqsOk _) trivial Tryz.func45 rfl (by kernel_rfl) (laws_szRuleS.loops k) (laws_szRuleS.den k)
def laws_szSettings.sg : Sig := ⟨[.b kSettings, .b (.int .i64)], [((.int .i64), .rd)]⟩
def laws_szSettings.E : Env := ⟨tys, bys, [(45, ⟨laws_szRuleS.sg, laws_szRuleS.F⟩)], eqs⟩
def laws_szSettings.F (k : Nat) (x : (((Int × (Int × (Int × Unit))) × (Int × ((List ((Int × (Int × Unit)) × (Int × (Int × (Int × (Bool × (Int × (Int × Unit)))))))) × ((List ((Int × (Int × Unit)) × (Int × (Int × (Int × (Bool × (Int × (Int × Unit)))))))) × Unit)))) × (Int × Unit))) : Option ((Int × Unit) × Unit) :=
  (laws_szRuleS.F k (x.1.2.2.1, x.2)).bind fun y0 =>
  bif (decide ((y0.1.1 < (0 : Int)))) then
  (some (((-(1 : Int)), ()), ()))
  else (laws_szRuleS.F k (x.1.2.2.2.1, y0.1)).bind fun y1 =>
    bif (decide ((y1.1.1 < (0 : Int)))) then
    (some (((-(1 : Int)), ()), ()))
    else some y1
def laws_szSettings.hd : Hints := ⟨[], [], [4], [0, 1, 2], []⟩
def laws_szSettings.lps (k : Nat) : List (Nat × Lp laws_szSettings.sg.Out) := []
theorem laws_szSettings.loops (k : Nat) : LoopsOk laws_szSettings.E k laws_szSettings.hd (laws_szSettings.lps k) (loopsOf (Go.Proofs.Tryz.f18.body.getD .skip)) := trivial
theorem laws_szSettings.den (k : Nat) (x : Sig.In laws_szSettings.sg.ps) : denFn laws_szSettings.E k Go.Proofs.Tryz.f18 laws_szSettings.sg laws_szSettings.hd (runL k laws_szSettings.hd (laws_szSettings.lps k)) x = laws_szSettings.F k x := by kernel_rfl
theorem laws_szSettings.ok (k : Nat) : Contract Tryz.prog 18 laws_szSettings.sg (laws_szSettings.F k) := ok_of (E := laws_szSettings.E) (tysOk _ _) (eqsOk _) ⟨laws_szRuleS.ok k, trivial⟩ Tryz.func18 rfl (by kernel_rfl) (laws_szSettings.loops k) (laws_szSettings.den k)
def laws_szByteS.sg : Sig := ⟨[.b (.sl (.int .u8)), .b (.int .i64)], [((.int .i64), .rd)]⟩
def laws_szByteS.E : Env := ⟨tys, bys, [], eqs⟩
def laws_szByteS.F (k : Nat) (x : ((List Int) × (Int × Unit))) : Option ((Int × Unit) × Unit) :=
  bif (decide (((IntKind.wrap .i64 (x.2.1 - (((List.length x.1) : Nat) : Int))) < (0 : Int)))) then
  (some (((-(1 : Int)), ()), ()))
  else some (((IntKind.wrap .i64 (x.2.1 - (((List.length x.1) : Nat) : Int))), ()), ())
def laws_szByteS.hd : Hints := ⟨[], [], [4], [0, 1], []⟩
def laws_szByteS.lps (k : Nat) : List (Nat × Lp laws_szByteS.sg.Out) := []
theorem laws_szByteS.loops (k : Nat) : LoopsOk laws_szByteS.E k laws_szByteS.hd (laws_szByteS.lps k) (loopsOf (Go.Proofs.Tryz.f87.body.getD .skip)) := trivial
theorem laws_szByteS.den (k : Nat) (x : Sig.In laws_szByteS.sg.ps) : denFn laws_szByteS.E k Go.Proofs.Tryz.f87 laws_szByteS.sg laws_szByteS.hd (runL k laws_szByteS.hd (laws_szByteS.lps k)) x = laws_szByteS.F k x := by kernel_rfl
theorem laws_szByteS.ok (k : Nat) : Contract Tryz.prog 87 laws_szByteS.sg (laws_szByteS.F k) := ok_of (E := laws_szByteS.E) (tysOk _ _) (eqsOk _) trivial Tryz.func87 rfl (by kernel_rfl) (laws_szByteS.loops k) (laws_szByteS.den k)
def laws_szEvent.sg : Sig := ⟨[.b kEvent, .b (.int .i64)], [((.int .i64), .rd)]⟩
def laws_szEvent.E : Env := ⟨tys, bys, [(87, ⟨laws_szByteS.sg, laws_szByteS.F⟩)], eqs⟩
def laws_szEvent.F (k : Nat) (x : ((Int × (Int × ((List Int) × Unit))) × (Int × Unit))) : Option ((Int × Unit) × Unit) :=
  (laws_szByteS.F k (x.1.2.2.1, x.2)).bind fun y0 =>
  bif (decide ((y0.1.1 < (0 : Int)))) then
  (some (((-(1 : Int)), ()), ()))
  else some y0
def laws_szEvent.hd : Hints := ⟨[], [], [4], [0, 1, 2], []⟩
def laws_szEvent.lps (k : Nat) : List (Nat × Lp laws_szEvent.sg.Out) := []
theorem laws_szEvent.loops (k : Nat) : LoopsOk laws_szEvent.E k laws_szEvent.hd (laws_szEvent.lps k) (loopsOf (Go.Proofs.Tryz.f88.body.getD .skip)) := trivial
theorem laws_szEvent.den (k : Nat) (x : Sig.In laws_szEvent.sg.ps) : denFn laws_szEvent.E k Go.Proofs.Tryz.f88 laws_szEvent.sg laws_szEvent.hd (runL k laws_szEvent.hd (laws_szEvent.lps k)) x = laws_szEvent.F k x := by kernel_rfl
theorem laws_szEvent.ok (k : Nat) : Contract Tryz.prog 88 laws_szEvent.sg (laws_szEvent.F k) := ok_of (E := laws_szEvent.E) (tysOk _ _) (eqsOk _) ⟨laws_szByteS.ok k, trivial⟩ Tryz.func88 rfl (by kernel_rfl) (laws_szEvent.loops k) (laws_szEvent.den k)
def laws_szEntry.sg : Sig := ⟨[.b kEntry, .b (.int .i64)], [((.int .i64), .rd)]⟩
def laws_szEntry.E : Env := ⟨tys, bys, [(88, ⟨laws_szEvent.sg, laws_szEvent.F⟩)], eqs⟩
def laws_szEntry.F (k : Nat) (x : ((Int × ((Int × (Int × ((List Int) × Unit))) × Unit)) × (Int × Unit))) : Option ((Int × Unit) × Unit) :=
  (laws_szEvent.F k (x.1.2.1, x.2)).bind fun y0 =>
  bif (decide ((y0.1.1 < (0 : Int)))) then
  (some (((-(1 : Int)), ()), ()))
  else some y0
def laws_szEntry.hd : Hints := ⟨[], [], [4], [0, 1, 2], []⟩
def laws_szEntry.lps (k : Nat) : List (Nat × Lp laws_szEntry.sg.Out) := []
theorem laws_szEntry.loops (k : Nat) : LoopsOk laws_szEntry.E k laws_szEntry.hd (laws_szEntry.lps k) (loopsOf (Go.Proofs.Tryz.f49.body.getD .skip)) := trivial
theorem laws_szEntry.den (k : Nat) (x : Sig.In laws_szEntry.sg.ps) : denFn laws_szEntry.E k Go.Proofs.Tryz.f49 laws_szEntry.sg laws_szEntry.hd (runL k laws_szEntry.hd (laws_szEntry.lps k)) x = laws_szEntry.F k x := by kernel_rfl
theorem laws_szEntry.ok (k : Nat) : Contract Tryz.prog 49 laws_szEntry.sg (laws_szEntry.F k) := ok_of (E := laws_szEntry.E) (tysOk _ _) (eqsOk _) ⟨laws_szEvent.ok k, trivial⟩ Tryz.func49 rfl (by kernel_rfl) (laws_szEntry.loops k) (laws_szEntry.den k)
def laws_szEntryS.sg : Sig := ⟨[.b (.sl kEntry), .b (.int .i64)], [((.int .i64), .rd)]⟩
def laws_szEntryS.E : Env := ⟨tys, bys, [(49, ⟨laws_szEntry.sg, laws_szEntry.F⟩)], eqs⟩
def laws_szEntryS.l5 {ρ : Type} (k : Nat) (c0 : (Int × Unit) → Option ρ) (c1 : (Int × Unit) → Option ρ) : Nat → List (Int × ((Int × (Int × ((List Int) × Unit))) × Unit)) → Int → Int → Option ρ
  | 0 => fun _ _ _ => none
  | n + 1 => fun x0 x1 x2 => 
    bif (decide ((x2 < (((List.length x0) : Nat) : Int)))) then
    (bif (Go.Dn.inB x2 (((List.length x0) : Nat) : Int)) then
      (Go.Dn.share (List.getD x0 (Int.toNat x2) ((0 : Int), (((0 : Int), ((0 : Int), (([] : List Int), ()))), ()))) fun s0 =>
        (laws_szEntry.F k (s0, x1, ())).bind fun y1 =>
        bif (decide ((y1.1.1 < (0 : Int)))) then
        (c0 ((-(1 : Int)), ()))
        else laws_szEntryS.l5 k c0 c1 n x0 y1.1.1 (IntKind.wrap .i64 (x2 + (1 : Int))))
      else none)
    else c1 (x1, ())
def laws_szEntryS.F (k : Nat) (x : ((List (Int × ((Int × (Int × ((List Int) × Unit))) × Unit))) × (Int × Unit))) : Option ((Int × Unit) × Unit) :=
  bif (decide (((IntKind.wrap .i64 (x.2.1 - (((List.length x.1) : Nat) : Int))) < (0 : Int)))) then
  (some (((-(1 : Int)), ()), ()))
  else laws_szEntryS.l5 k (fun e2 =>
      some (e2, ())) (fun e3 =>
      some (e3, ())) k x.1 (IntKind.wrap .i64 (x.2.1 - (((List.length x.1) : Nat) : Int))) (0 : Int)
def laws_szEntryS.hd : Hints := ⟨[(5, ⟨[0, 1, 5], []⟩)], [(0, [1]), (1, [0, 1, 5])], [4], [0, 1, 5], []⟩
def laws_szEntryS.lps (k : Nat) : List (Nat × Lp laws_szEntryS.sg.Out) := [(5, ⟨[.l kEntry, .i, .i], fun x => (fun x0 x1 x2 => ⟨[(0, .v false [.fz kEntry x0]), (1, .v false [.int .i64 x1]), (5, .v false [.int .i64 x2])], [], []⟩) x.1 x.2.1 x.2.2.1, fun C n x => laws_szEntryS.l5 k (fun y => C .ret ((fun y0 => ⟨[(4, .v false [.int .i64 y0])], [], []⟩) y.1)) (fun y => C (.exit 0) ((fun y0 => ⟨[(1, .v false [.int .i64 y0])], [], []⟩) y.1)) n x.1 x.2.1 x.2.2.1⟩)]
theorem laws_szEntryS.loops (k : Nat) : LoopsOk laws_szEntryS.E k laws_szEntryS.hd (laws_szEntryS.lps k) (loopsOf (Go.Proofs.Tryz.f22.body.getD .skip)) := ⟨⟨fun _ _ => rfl, fun _ _ _ => by kernel_rfl, fun _ => ⟨rfl, rfl⟩⟩, trivial⟩
theorem laws_szEntryS.den (k : Nat) (x : Sig.In laws_szEntryS.sg.ps) : denFn laws_szEntryS.E k Go.Proofs.Tryz.f22 laws_szEntryS.sg laws_szEntryS.hd (runL k laws_szEntryS.hd (laws_szEntryS.lps k)) x = laws_szEntryS.F k x := by kernel_rfl
theorem laws_szEntryS.ok (k : Nat) : Contract Tryz.prog 22 laws_szEntryS.sg (laws_szEntryS.F k) := ok_of (E := laws_szEntryS.E) (tysOk _ _) (eqsOk _) ⟨laws_szEntry.ok k, trivial⟩ Tryz.func22 rfl (by kernel_rfl) (laws_szEntryS.loops k) (laws_szEntryS.den k)
def laws_szNode.sg : Sig := ⟨[.b kNode, .b (.int .i64)], [((.int .i64), .rd)]⟩
def laws_szNode.E : Env := ⟨tys, bys, [(22, ⟨laws_szEntryS.sg, laws_szEntryS.F⟩)], eqs⟩
def laws_szNode.F (k : Nat) (x : ((Int × (Bool × (Int × (Int × ((List (Int × ((Int × (Int × ((List Int) × Unit))) × Unit))) × (Int × (Int × (Int × (Int × Unit))))))))) × (Int × Unit))) : Option ((Int × Unit) × Unit) :=
  (laws_szEntryS.F k (x.1.2.2.2.2.1, x.2)).bind fun y0 =>
  bif (decide ((y0.1.1 < (0 : Int)))) then
  (some (((-(1 : Int)), ()), ()))
  else some y0
def laws_szNode.hd : Hints := ⟨[], [], [4], [0, 1, 2], []⟩
def laws_szNode.lps (k : Nat) : List (Nat × Lp laws_szNode.sg.Out) := []
theorem laws_szNode.loops (k : Nat) : LoopsOk laws_szNode.E k laws_szNode.hd (laws_szNode.lps k) (loopsOf (Go.Proofs.Tryz.f46.body.getD .skip)) := trivial
theorem laws_szNode.den (k : Nat) (x : Sig.In laws_szNode.sg.ps) : denFn laws_szNode.E k Go.Proofs.Tryz.f46 laws_szNode.sg laws_szNode.hd (runL k laws_szNode.hd (laws_szNode.lps k)) x = laws_szNode.F k x := by kernel_rfl
theorem laws_szNode.ok (k : Nat) : Contract Tryz.prog 46 laws_szNode.sg (laws_szNode.F k) := ok_of (E := laws_szNode.E) (tysOk _ _) (eqsOk _) ⟨laws_szEntryS.ok k, trivial⟩ Tryz.func46 rfl (by kernel_rfl) (laws_szNode.loops k) (laws_szNode.den k)
def laws_szNodeS.sg : Sig := ⟨[.b (.sl kNode), .b (.int .i64)], [((.int .i64), .rd)]⟩
def laws_szNodeS.E : Env := ⟨tys, bys, [(46, ⟨laws_szNode.sg, laws_szNode.F⟩)], eqs⟩
def laws_szNodeS.l5 {ρ : Type} (k : Nat) (c0 : (Int × Unit) → Option ρ) (c1 : (Int × Unit) → Option ρ) : Nat → List (Int × (Bool × (Int × (Int × ((List (Int × ((Int × (Int × ((List Int) × Unit))) × Unit))) × (Int × (Int × (Int × (Int × Unit))))))))) → Int → Int → Option ρ
  | 0 => fun _ _ _ => none
  | n + 1 => fun x0 x1 x2 => 
    bif (decide ((x2 < (((List.length x0) : Nat) : Int)))) then
    (bif (Go.Dn.inB x2 (((List.length x0) : Nat) : Int)) then
      (Go.Dn.share (List.getD x0 (Int.toNat x2) ((0 : Int), (false, ((0 : Int), ((0 : Int), (([] : List (Int × ((Int × (Int × ((List Int) × Unit))) × Unit))), ((0 : Int), ((0 : Int), ((0 : Int), ((0 : Int), ())))))))))) fun s0 =>
        (laws_szNode.F k (s0, x1, ())).bind fun y1 =>
        bif (decide ((y1.1.1 < (0 : Int)))) then
        (c0 ((-(1 : Int)), ()))
        else laws_szNodeS.l5 k c0 c1 n x0 y1.1.1 (IntKind.wrap .i64 (x2 + (1 : Int))))
      else none)
    else c1 (x1, ())
def laws_szNodeS.F (k : Nat) (x : ((List (Int × (Bool × (Int × (Int × ((List (Int × ((Int × (Int × ((List Int) × Unit))) × Unit))) × (Int × (Int × (Int × (Int × Unit)))))))))) × (Int × Unit))) : Option ((Int × Unit) × Unit) :=
  bif (decide (((IntKind.wrap .i64 (x.2.1 - (((List.length x.1) : Nat) : Int))) < (0 : Int)))) then
  (some (((-(1 : Int)), ()), ()))
  else laws_szNodeS.l5 k (fun e2 =>
      some (e2, ())) (fun e3 =>
      some (e3, ())) k x.1 (IntKind.wrap .i64 (x.2.1 - (((List.length x.1) : Nat) : Int))) (0 : Int)
def laws_szNodeS.hd : Hints := ⟨[(5, ⟨[0, 1, 5], []⟩)], [(0, [1]), (1, [0, 1, 5])], [4], [0, 1, 5], []⟩
def laws_szNodeS.lps (k : Nat) : List (Nat × Lp laws_szNodeS.sg.Out) := [(5, ⟨[.l kNode, .i, .i], fun x => (fun x0 x1 x2 => ⟨[(0, .v false [.fz kNode x0]), (1, .v false [.int .i64 x1]), (5, .v false [.int .i64 x2])], [], []⟩) x.1 x.2.1 x.2.2.1, fun C n x => laws_szNodeS.l5 k (fun y => C .ret ((fun y0 => ⟨[(4, .v false [.int .i64 y0])], [], []⟩) y.1)) (fun y => C (.exit 0) ((fun y0 => ⟨[(1, .v false [.int .i64 y0])], [], []⟩) y.1)) n x.1 x.2.1 x.2.2.1⟩)]
theorem laws_szNodeS.loops (k : Nat) : LoopsOk laws_szNodeS.E k laws_szNodeS.hd (laws_szNodeS.lps k) (loopsOf (Go.Proofs.Tryz.f19.body.getD .skip)) := ⟨⟨fun _ _ => rfl, fun _ _ _ => by kernel_rfl, fun _ => ⟨rfl, rfl⟩⟩, trivial⟩
theorem laws_szNodeS.den (k : Nat) (x : Sig.In laws_szNodeS.sg.ps) : denFn laws_szNodeS.E k Go.Proofs.Tryz.f19 laws_szNodeS.sg laws_szNodeS.hd (runL k laws_szNodeS.hd (laws_szNodeS.lps k)) x = laws_szNodeS.F k x := by kernel_rfl
theorem laws_szNodeS.ok (k : Nat) : Contract Tryz.prog 19 laws_szNodeS.sg (laws_szNodeS.F k) := ok_of (E := laws_szNodeS.E) (tysOk _ _) (eqsOk _) ⟨laws_szNode.ok k, trivial⟩ Tryz.func19 rfl (by kernel_rfl) (laws_szNodeS.loops k) (laws_szNodeS.den k)
def laws_szWire.sg : Sig := ⟨[.b kWire, .b (.int .i64)], [((.int .i64), .rd)]⟩
def laws_szWire.E : Env := ⟨tys, bys, [(87, ⟨laws_szByteS.sg, laws_szByteS.F⟩)], eqs⟩
def laws_szWire.F (k : Nat) (x : ((Int × ((List Int) × (Int × ((List Int) × Unit)))) × (Int × Unit))) : Option ((Int × Unit) × Unit) :=
  (laws_szByteS.F k (x.1.2.1, x.2)).bind fun y0 =>
  bif (decide ((y0.1.1 < (0 : Int)))) then
  (some (((-(1 : Int)), ()), ()))
  else (laws_szByteS.F k (x.1.2.2.2.1, y0.1)).bind fun y1 =>
    bif (decide ((y1.1.1 < (0 : Int)))) then
    (some (((-(1 : Int)), ()), ()))
    else some y1
def laws_szWire.hd : Hints := ⟨[], [], [4], [0, 1, 2], []⟩
def laws_szWire.lps (k : Nat) : List (Nat × Lp laws_szWire.sg.Out) := []
theorem laws_szWire.loops (k : Nat) : LoopsOk laws_szWire.E k laws_szWire.hd (laws_szWire.lps k) (loopsOf (Go.Proofs.Tryz.f47.body.getD .skip)) := trivial
theorem laws_szWire.den (k : Nat) (x : Sig.In laws_szWire.sg.ps) : denFn laws_szWire.E k Go.Proofs.Tryz.f47 laws_szWire.sg laws_szWire.hd (runL k laws_szWire.hd (laws_szWire.lps k)) x = laws_szWire.F k x := by kernel_rfl
theorem laws_szWire.ok (k : Nat) : Contract Tryz.prog 47 laws_szWire.sg (laws_szWire.F k) := ok_of (E := laws_szWire.E) (tysOk _ _) (eqsOk _) ⟨laws_szByteS.ok k, trivial⟩ Tryz.func47 rfl (by kernel_rfl) (laws_szWire.loops k) (laws_szWire.den k)
def laws_szWireS.sg : Sig := ⟨[.b (.sl kWire), .b (.int .i64)], [((.int .i64), .rd)]⟩
def laws_szWireS.E : Env := ⟨tys, bys, [(47, ⟨laws_szWire.sg, laws_szWire.F⟩)], eqs⟩
def laws_szWireS.l5 {ρ : Type} (k : Nat) (c0 : (Int × Unit) → Option ρ) (c1 : (Int × Unit) → Option ρ) : Nat → List (Int × ((List Int) × (Int × ((List Int) × Unit)))) → Int → Int → Option ρ
  | 0 => fun _ _ _ => none
  | n + 1 => fun x0 x1 x2 => 
    bif (decide ((x2 < (((List.length x0) : Nat) : Int)))) then
    (bif (Go.Dn.inB x2 (((List.length x0) : Nat) : Int)) then
      (Go.Dn.share (List.getD x0 (Int.toNat x2) ((0 : Int), (([] : List Int), ((0 : Int), (([] : List Int), ()))))) fun s0 =>
        (laws_szWire.F k (s0, x1, ())).bind fun y1 =>
        bif (decide ((y1.1.1 < (0 : Int)))) then
        (c0 ((-(1 : Int)), ()))
        else laws_szWireS.l5 k c0 c1 n x0 y1.1.1 (IntKind.wrap .i64 (x2 + (1 : Int))))
      else none)
    else c1 (x1, ())
def laws_szWireS.F (k : Nat) (x : ((List (Int × ((List Int) × (Int × ((List Int) × Unit))))) × (Int × Unit))) : Option ((Int × Unit) × Unit) :=
  bif (decide (((IntKind.wrap .i64 (x.2.1 - (((List.length x.1) : Nat) : Int))) < (0 : Int)))) then
  (some (((-(1 : Int)), ()), ()))
  else laws_szWireS.l5 k (fun e2 =>
      some (e2, ())) (fun e3 =>
      some (e3, ())) k x.1 (IntKind.wrap .i64 (x.2.1 - (((List.length x.1) : Nat) : Int))) (0 : Int)
def laws_szWireS.hd : Hints := ⟨[(5, ⟨[0, 1, 5], []⟩)], [(0, [1]), (1, [0, 1, 5])], [4], [0, 1, 5], []⟩
def laws_szWireS.lps (k : Nat) : List (Nat × Lp laws_szWireS.sg.Out) := [(5, ⟨[.l kWire, .i, .i], fun x => (fun x0 x1 x2 => ⟨[(0, .v false [.fz kWire x0]), (1, .v false [.int .i64 x1]), (5, .v false [.int .i64 x2])], [], []⟩) x.1 x.2.1 x.2.2.1, fun C n x => laws_szWireS.l5 k (fun y => C .ret ((fun y0 => ⟨[(4, .v false [.int .i64 y0])], [], []⟩) y.1)) (fun y => C (.exit 0) ((fun y0 => ⟨[(1, .v false [.int .i64 y0])], [], []⟩) y.1)) n x.1 x.2.1 x.2.2.1⟩)]
theorem laws_szWireS.loops (k : Nat) : LoopsOk laws_szWireS.E k laws_szWireS.hd (laws_szWireS.lps k) (loopsOf (Go.Proofs.Tryz.f20.body.getD .skip)) := ⟨⟨fun _ _ => rfl, fun _ _ _ => by kernel_rfl, fun _ => ⟨rfl, rfl⟩⟩, trivial⟩
theorem laws_szWireS.den (k : Nat) (x : Sig.In laws_szWireS.sg.ps) : denFn laws_szWireS.E k Go.Proofs.Tryz.f20 laws_szWireS.sg laws_szWireS.hd (runL k laws_szWireS.hd (laws_szWireS.lps k)) x = laws_szWireS.F k x := by kernel_rfl
theorem laws_szWireS.ok (k : Nat) : Contract Tryz.prog 20 laws_szWireS.sg (laws_szWireS.F k) := ok_of (E := laws_szWireS.E) (tysOk _ _) (eqsOk _) ⟨laws_szWire.ok k, trivial⟩ Tryz.func20 rfl (by kernel_rfl) (laws_szWireS.loops k) (laws_szWireS.den k)
def laws_szMail.sg : Sig := ⟨[.b kMail, .b (.int .i64)], [((.int .i64), .rd)]⟩
def laws_szMail.E : Env := ⟨tys, bys, [(49, ⟨laws_szEntry.sg, laws_szEntry.F⟩)], eqs⟩
def laws_szMail.F (k : Nat) (x : ((Int × (Int × (Int × (Int × (Int × (Bool × ((Int × ((Int × (Int × ((List Int) × Unit))) × Unit)) × Unit))))))) × (Int × Unit))) : Option ((Int × Unit) × Unit) :=
  (laws_szEntry.F k (x.1.2.2.2.2.2.2.1, x.2)).bind fun y0 =>
  bif (decide ((y0.1.1 < (0 : Int)))) then
  (some (((-(1 : Int)), ()), ()))
  else some y0
def laws_szMail.hd : Hints := ⟨[], [], [4], [0, 1, 2], []⟩
def laws_szMail.lps (k : Nat) : List (Nat × Lp laws_szMail.sg.Out) := []
theorem laws_szMail.loops (k : Nat) : LoopsOk laws_szMail.E k laws_szMail.hd (laws_szMail.lps k) (loopsOf (Go.Proofs.Tryz.f48.body.getD .skip)) := trivial
theorem laws_szMail.den (k : Nat) (x : Sig.In laws_szMail.sg.ps) : denFn laws_szMail.E k Go.Proofs.Tryz.f48 laws_szMail.sg laws_szMail.hd (runL k laws_szMail.hd (laws_szMail.lps k)) x = laws_szMail.F k x := by kernel_rfl
theorem laws_szMail.ok (k : Nat) : Contract Tryz.prog 48 laws_szMail.sg (laws_szMail.F k) := ok_of (E := laws_szMail.E) (tysOk _ _) (eqsOk _) ⟨laws_szEntry.ok k, trivial⟩ Tryz.func48 rfl (by kernel_rfl) (laws_szMail.loops k) (laws_szMail.den k)
def laws_szMailS.sg : Sig := ⟨[.b (.sl kMail), .b (.int .i64)], [((.int .i64), .rd)]⟩
def laws_szMailS.E : Env := ⟨tys, bys, [(48, ⟨laws_szMail.sg, laws_szMail.F⟩)], eqs⟩
def laws_szMailS.l5 {ρ : Type} (k : Nat) (c0 : (Int × Unit) → Option ρ) (c1 : (Int × Unit) → Option ρ) : Nat → List (Int × (Int × (Int × (Int × (Int × (Bool × ((Int × ((Int × (Int × ((List Int) × Unit))) × Unit)) × Unit))))))) → Int → Int → Option ρ
  | 0 => fun _ _ _ => none
  | n + 1 => fun x0 x1 x2 => 
    bif (decide ((x2 < (((List.length x0) : Nat) : Int)))) then
    (bif (Go.Dn.inB x2 (((List.length x0) : Nat) : Int)) then
      (Go.Dn.share (List.getD x0 (Int.toNat x2) ((0 : Int), ((0 : Int), ((0 : Int), ((0 : Int), ((0 : Int), (false, (((0 : Int), (((0 : Int), ((0 : Int), (([] : List Int), ()))), ())), ())))))))) fun s0 =>
        (laws_szMail.F k (s0, x1, ())).bind fun y1 =>
        bif (decide ((y1.1.1 < (0 : Int)))) then
        (c0 ((-(1 : Int)), ()))
        else laws_szMailS.l5 k c0 c1 n x0 y1.1.1 (IntKind.wrap .i64 (x2 + (1 : Int))))
      else none)
    else c1 (x1, ())
def laws_szMailS.F (k : Nat) (x : ((List (Int × (Int × (Int × (Int × (Int × (Bool × ((Int × ((Int × (Int × ((List Int) × Unit))) × Unit)) × Unit)))))))) × (Int × Unit))) : Option ((Int × Unit) × Unit) :=
  bif (decide (((IntKind.wrap .i64 (x.2.1 - (((List.length x.1) : Nat) : Int))) < (0 : Int)))) then
  (some (((-(1 : Int)), ()), ()))
  else laws_szMailS.l5 k (fun e2 =>
      some (e2, ())) (fun e3 =>
      some (e3, ())) k x.1 (IntKind.wrap .i64 (x.2.1 - (((List.length x.1) : Nat) : Int))) (0 : Int)
def laws_szMailS.hd : Hints := ⟨[(5, ⟨[0, 1, 5], []⟩)], [(0, [1]), (1, [0, 1, 5])], [4], [0, 1, 5], []⟩
def laws_szMailS.lps (k : Nat) : List (Nat × Lp laws_szMailS.sg.Out) := [(5, ⟨[.l kMail, .i, .i], fun x => (fun x0 x1 x2 => ⟨[(0, .v false [.fz kMail x0]), (1, .v false [.int .i64 x1]), (5, .v false [.int .i64 x2])], [], []⟩) x.1 x.2.1 x.2.2.1, fun C n x => laws_szMailS.l5 k (fun y => C .ret ((fun y0 => ⟨[(4, .v false [.int .i64 y0])], [], []⟩) y.1)) (fun y => C (.exit 0) ((fun y0 => ⟨[(1, .v false [.int .i64 y0])], [], []⟩) y.1)) n x.1 x.2.1 x.2.2.1⟩)]
theorem laws_szMailS.loops (k : Nat) : LoopsOk laws_szMailS.E k laws_szMailS.hd (laws_szMailS.lps k) (loopsOf (Go.Proofs.Tryz.f21.body.getD .skip)) := ⟨⟨fun _ _ => rfl, fun _ _ _ => by kernel_rfl, fun _ => ⟨rfl, rfl⟩⟩, trivial⟩
theorem laws_szMailS.den (k : Nat) (x : Sig.In laws_szMailS.sg.ps) : denFn laws_szMailS.E k Go.Proofs.Tryz.f21 laws_szMailS.sg laws_szMailS.hd (runL k laws_szMailS.hd (laws_szMailS.lps k)) x = laws_szMailS.F k x := by kernel_rfl
theorem laws_szMailS.ok (k : Nat) : Contract Tryz.prog 21 laws_szMailS.sg (laws_szMailS.F k) := ok_of (E := laws_szMailS.E) (tysOk _ _) (eqsOk _) ⟨laws_szMail.ok k, trivial⟩ Tryz.func21 rfl (by kernel_rfl) (laws_szMailS.loops k) (laws_szMailS.den k)
def laws_szPair.sg : Sig := ⟨[.b kPair, .b (.int .i64)], [((.int .i64), .rd)]⟩
def laws_szPair.E : Env := ⟨tys, bys, [(18, ⟨laws_szSettings.sg, laws_szSettings.F⟩), (19, ⟨laws_szNodeS.sg, laws_szNodeS.F⟩), (20, ⟨laws_szWireS.sg, laws_szWireS.F⟩), (21, ⟨laws_szMailS.sg, laws_szMailS.F⟩), (22, ⟨laws_szEntryS.sg, laws_szEntryS.F⟩)], eqs⟩
def laws_szPair.F (k : Nat) (x : ((((Int × (Int × (Int × Unit))) × (Int × ((List ((Int × (Int × Unit)) × (Int × (Int × (Int × (Bool × (Int × (Int × Unit)))))))) × ((List ((Int × (Int × Unit)) × (Int × (Int × (Int × (Bool × (Int × (Int × Unit)))))))) × Unit)))) × ((List (Int × (Bool × (Int × (Int × ((List (Int × ((Int × (Int × ((List Int) × Unit))) × Unit))) × (Int × (Int × (Int × (Int × Unit)))))))))) × ((List (Int × ((List Int) × (Int × ((List Int) × Unit))))) × ((List (Int × (Int × (Int × (Int × (Int × (Bool × ((Int × ((Int × (Int × ((List Int) × Unit))) × Unit)) × Unit)))))))) × ((List (Int × ((Int × (Int × ((List Int) × Unit))) × Unit))) × Unit))))) × (Int × Unit))) : Option ((Int × Unit) × Unit) :=
  (laws_szSettings.F k (x.1.1, x.2)).bind fun y0 =>
  bif (decide ((y0.1.1 < (0 : Int)))) then
  (some (((-(1 : Int)), ()), ()))
  else (laws_szNodeS.F k (x.1.2.1, y0.1)).bind fun y1 =>
    bif (decide ((y1.1.1 < (0 : Int)))) then
    (some (((-(1 : Int)), ()), ()))
    else (laws_szWireS.F k (x.1.2.2.1, y1.1)).bind fun y2 =>
      bif (decide ((y2.1.1 < (0 : Int)))) then
      (some (((-(1 : Int)), ()), ()))
      else (laws_szMailS.F k (x.1.2.2.2.1, y2.1)).bind fun y3 =>
        bif (decide ((y3.1.1 < (0 : Int)))) then
        (some (((-(1 : Int)), ()), ()))
        else (laws_szEntryS.F k (x.1.2.2.2.2.1, y3.1)).bind fun y4 =>
          bif (decide ((y4.1.1 < (0 : Int)))) then
          (some (((-(1 : Int)), ()), ()))
          else some y4
def laws_szPair.hd : Hints := ⟨[], [], [4], [0, 1, 2], []⟩
def laws_szPair.lps (k : Nat) : List (Nat × Lp laws_szPair.sg.Out) := []
theorem laws_szPair.loops (k : Nat) : LoopsOk laws_szPair.E k laws_szPair.hd (laws_szPair.lps k) (loopsOf (Go.Proofs.Tryz.f7.body.getD .skip)) := trivial
theorem laws_szPair.den (k : Nat) (x : Sig.In laws_szPair.sg.ps) : denFn laws_szPair.E k Go.Proofs.Tryz.f7 laws_szPair.sg laws_szPair.hd (runL k laws_szPair.hd (laws_szPair.lps k)) x = laws_szPair.F k x := by kernel_rfl
theorem laws_szPair.ok (k : Nat) : Contract Tryz.prog 7 laws_szPair.sg (laws_szPair.F k) := ok_of (E := laws_szPair.E) (tysOk _ _) (eqsOk _) ⟨laws_szSettings.ok k, laws_szNodeS.ok k, laws_szWireS.ok k, laws_szMailS.ok k, laws_szEntryS.ok k, trivial⟩ Tryz.func7 rfl (by kernel_rfl) (laws_szPair.loops k) (laws_szPair.den k)
def spec_l1In.sg : Sig := ⟨[.b (.int .i64), .b (.int .i64), .b (.int .i64)], [(.bool, .rd)]⟩
def spec_l1In.E : Env := ⟨tys, bys, [], eqs⟩
def spec_l1In.F (k : Nat) (x : (Int × (Int × (Int × Unit)))) : Option ((Bool × Unit) × Unit) :=
  bif (decide ((x.1 ≥ x.2.1))) then
  (some (((decide ((x.1 ≤ x.2.2.1))), ()), ()))
  else some ((false, ()), ())
def spec_l1In.hd : Hints := ⟨[], [], [6], [0, 1, 2], []⟩
def spec_l1In.lps (k : Nat) : List (Nat × Lp spec_l1In.sg.Out) := []
theorem spec_l1In.loops (k : Nat) : LoopsOk spec_l1In.E k spec_l1In.hd (spec_l1In.lps k) (loopsOf (Go.Proofs.Tryz.f93.body.getD .skip)) := trivial
theorem spec_l1In.den (k : Nat) (x : Sig.In spec_l1In.sg.ps) : denFn spec_l1In.E k Go.Proofs.Tryz.f93 spec_l1In.sg spec_l1In.hd (runL k spec_l1In.hd (spec_l1In.lps k)) x = spec_l1In.F k x := by kernel_rfl
theorem spec_l1In.ok (k : Nat) : Contract Tryz.prog 93 spec_l1In.sg (spec_l1In.F k) := ok_of (E := spec_l1In.E) (tysOk _ _) (eqsOk _) trivial Tryz.func93 rfl (by kernel_rfl) (spec_l1In.loops k) (spec_l1In.den k)
def spec_l4Hold.sg : Sig := ⟨[.b (.int .i64)], [(.bool, .rd)]⟩
def spec_l4Hold.E : Env := ⟨tys, bys, [(93, ⟨spec_l1In.sg, spec_l1In.F⟩)], eqs⟩
def spec_l4Hold.F (k : Nat) (x : (Int × Unit)) : Option ((Bool × Unit) × Unit) :=
  bif (x.1 == (0 : Int)) then
  (some ((true, ()), ()))
  else (spec_l1In.F k (x.1, (3 : Int), (200 : Int), ())).bind fun y0 =>
    some y0
def spec_l4Hold.hd : Hints := ⟨[], [], [2], [0], []⟩
def spec_l4Hold.lps (k : Nat) : List (Nat × Lp spec_l4Hold.sg.Out) := []
theorem spec_l4Hold.loops (k : Nat) : LoopsOk spec_l4Hold.E k spec_l4Hold.hd (spec_l4Hold.lps k) (loopsOf (Go.Proofs.Tryz.f117.body.getD .skip)) := trivial
theorem spec_l4Hold.den (k : Nat) (x : Sig.In spec_l4Hold.sg.ps) : denFn spec_l4Hold.E k Go.Proofs.Tryz.f117 spec_l4Hold.sg spec_l4Hold.hd (runL k spec_l4Hold.hd (spec_l4Hold.lps k)) x = spec_l4Hold.F k x := by kernel_rfl
theorem spec_l4Hold.ok (k : Nat) : Contract Tryz.prog 117 spec_l4Hold.sg (spec_l4Hold.F k) := ok_of (E := spec_l4Hold.E) (tysOk _ _) (eqsOk _) ⟨spec_l1In.ok k, trivial⟩ Tryz.func117 rfl (by kernel_rfl) (spec_l4Hold.loops k) (spec_l4Hold.den k)
def spec_ConfigFault.sg : Sig := ⟨[.b kConfig], [((.int .i64), .rd)]⟩
def spec_ConfigFault.E : Env := ⟨tys, bys, [(93, ⟨spec_l1In.sg, spec_l1In.F⟩), (117, ⟨spec_l4Hold.sg, spec_l4Hold.F⟩)], eqs⟩
def spec_ConfigFault.F (k : Nat) (x : ((Int × (Int × (Int × Unit))) × Unit)) : Option ((Int × Unit) × Unit) :=
  (spec_l1In.F k (x.1.1, (1 : Int), (65535 : Int), ())).bind fun y0 =>
  bif (!y0.1.1) then
  (some (((3 : Int), ()), ()))
  else (spec_l1In.F k (x.1.2.1, (1 : Int), (65535 : Int), ())).bind fun y1 =>
    bif (!y1.1.1) then
    (some (((3 : Int), ()), ()))
    else (spec_l4Hold.F k x.1.2.2).bind fun y2 =>
      bif (!y2.1.1) then
      (some (((3 : Int), ()), ()))
      else some (((0 : Int), ()), ())
def spec_ConfigFault.hd : Hints := ⟨[], [], [2], [0, 1], []⟩
def spec_ConfigFault.lps (k : Nat) : List (Nat × Lp spec_ConfigFault.sg.Out) := []
theorem spec_ConfigFault.loops (k : Nat) : LoopsOk spec_ConfigFault.E k spec_ConfigFault.hd (spec_ConfigFault.lps k) (loopsOf (Go.Proofs.Tryz.f89.body.getD .skip)) := trivial
theorem spec_ConfigFault.den (k : Nat) (x : Sig.In spec_ConfigFault.sg.ps) : denFn spec_ConfigFault.E k Go.Proofs.Tryz.f89 spec_ConfigFault.sg spec_ConfigFault.hd (runL k spec_ConfigFault.hd (spec_ConfigFault.lps k)) x = spec_ConfigFault.F k x := by kernel_rfl
theorem spec_ConfigFault.ok (k : Nat) : Contract Tryz.prog 89 spec_ConfigFault.sg (spec_ConfigFault.F k) := ok_of (E := spec_ConfigFault.E) (tysOk _ _) (eqsOk _) ⟨spec_l1In.ok k, spec_l4Hold.ok k, trivial⟩ Tryz.func89 rfl (by kernel_rfl) (spec_ConfigFault.loops k) (spec_ConfigFault.den k)
def spec_l2Addr.sg : Sig := ⟨[.b (.int .i64)], [(.bool, .rd)]⟩
def spec_l2Addr.E : Env := ⟨tys, bys, [(93, ⟨spec_l1In.sg, spec_l1In.F⟩)], eqs⟩
def spec_l2Addr.F (k : Nat) (x : (Int × Unit)) : Option ((Bool × Unit) × Unit) :=
  (spec_l1In.F k (x.1, (0 : Int), (65535 : Int), ())).bind fun y0 =>
  some y0
def spec_l2Addr.hd : Hints := ⟨[], [], [2], [0], []⟩
def spec_l2Addr.lps (k : Nat) : List (Nat × Lp spec_l2Addr.sg.Out) := []
theorem spec_l2Addr.loops (k : Nat) : LoopsOk spec_l2Addr.E k spec_l2Addr.hd (spec_l2Addr.lps k) (loopsOf (Go.Proofs.Tryz.f90.body.getD .skip)) := trivial
theorem spec_l2Addr.den (k : Nat) (x : Sig.In spec_l2Addr.sg.ps) : denFn spec_l2Addr.E k Go.Proofs.Tryz.f90 spec_l2Addr.sg spec_l2Addr.hd (runL k spec_l2Addr.hd (spec_l2Addr.lps k)) x = spec_l2Addr.F k x := by kernel_rfl
theorem spec_l2Addr.ok (k : Nat) : Contract Tryz.prog 90 spec_l2Addr.sg (spec_l2Addr.F k) := ok_of (E := spec_l2Addr.E) (tysOk _ _) (eqsOk _) ⟨spec_l1In.ok k, trivial⟩ Tryz.func90 rfl (by kernel_rfl) (spec_l2Addr.loops k) (spec_l2Addr.den k)
def spec_l2Rest.sg : Sig := ⟨[.b (.int .i64)], [((.int .i64), .rd)]⟩
def spec_l2Rest.E : Env := ⟨tys, bys, [], eqs⟩
def spec_l2Rest.F (k : Nat) (x : (Int × Unit)) : Option ((Int × Unit) × Unit) :=
  bif (decide (((IntKind.wrap .u64 (IntKind.wrap .i64 ((16 : Int) - x.1))) < (0 : Int)))) then
  (none)
  else some (((IntKind.wrap .i64 ((Go.Dn.shlV .i64 (1 : Int) (IntKind.wrap .u64 (IntKind.wrap .i64 ((16 : Int) - x.1)))) - (1 : Int))), ()), ())
def spec_l2Rest.hd : Hints := ⟨[], [], [2], [0], []⟩
def spec_l2Rest.lps (k : Nat) : List (Nat × Lp spec_l2Rest.sg.Out) := []
theorem spec_l2Rest.loops (k : Nat) : LoopsOk spec_l2Rest.E k spec_l2Rest.hd (spec_l2Rest.lps k) (loopsOf (Go.Proofs.Tryz.f131.body.getD .skip)) := trivial
theorem spec_l2Rest.den (k : Nat) (x : Sig.In spec_l2Rest.sg.ps) : denFn spec_l2Rest.E k Go.Proofs.Tryz.f131 spec_l2Rest.sg spec_l2Rest.hd (runL k spec_l2Rest.hd (spec_l2Rest.lps k)) x = spec_l2Rest.F k x := by kernel_rfl
theorem spec_l2Rest.ok (k : Nat) : Contract Tryz.prog 131 spec_l2Rest.sg (spec_l2Rest.F k) := ok_of (E := spec_l2Rest.E) (tysOk _ _) (eqsOk _) trivial Tryz.func131 rfl (by kernel_rfl) (spec_l2Rest.loops k) (spec_l2Rest.den k)
def spec_PrefixFault.sg : Sig := ⟨[.b kPrefix], [((.int .i64), .rd)]⟩
def spec_PrefixFault.E : Env := ⟨tys, bys, [(90, ⟨spec_l2Addr.sg, spec_l2Addr.F⟩), (93, ⟨spec_l1In.sg, spec_l1In.F⟩), (131, ⟨spec_l2Rest.sg, spec_l2Rest.F⟩)], eqs⟩
def spec_PrefixFault.F (k : Nat) (x : ((Int × (Int × Unit)) × Unit)) : Option ((Int × Unit) × Unit) :=
  (spec_l2Addr.F k (x.1.1, ())).bind fun y0 =>
  bif (!y0.1.1) then
  (some (((3 : Int), ()), ()))
  else (spec_l1In.F k (x.1.2.1, (0 : Int), (16 : Int), ())).bind fun y1 =>
    bif (!y1.1.1) then
    (some (((3 : Int), ()), ()))
    else (spec_l2Rest.F k x.1.2).bind fun y2 =>
      bif ((Go.Dn.andV .i64 x.1.1 y2.1.1) != (0 : Int)) then
      (some (((1 : Int), ()), ()))
      else some (((0 : Int), ()), ())
def spec_PrefixFault.hd : Hints := ⟨[], [], [2], [0, 1], [(3, [0, 1, 0, 4, 12, 31, 63])]⟩
def spec_PrefixFault.lps (k : Nat) : List (Nat × Lp spec_PrefixFault.sg.Out) := []
theorem spec_PrefixFault.loops (k : Nat) : LoopsOk spec_PrefixFault.E k spec_PrefixFault.hd (spec_PrefixFault.lps k) (loopsOf (Go.Proofs.Tryz.f126.body.getD .skip)) := trivial
theorem spec_PrefixFault.den (k : Nat) (x : Sig.In spec_PrefixFault.sg.ps) : denFn spec_PrefixFault.E k Go.Proofs.Tryz.f126 spec_PrefixFault.sg spec_PrefixFault.hd (runL k spec_PrefixFault.hd (spec_PrefixFault.lps k)) x = spec_PrefixFault.F k x := by kernel_rfl
theorem spec_PrefixFault.ok (k : Nat) : Contract Tryz.prog 126 spec_PrefixFault.sg (spec_PrefixFault.F k) := ok_of (E := spec_PrefixFault.E) (tysOk _ _) (eqsOk _) ⟨spec_l2Addr.ok k, spec_l1In.ok k, spec_l2Rest.ok k, trivial⟩ Tryz.func126 rfl (by kernel_rfl) (spec_PrefixFault.loops k) (spec_PrefixFault.den k)
def spec_l3Word.sg : Sig := ⟨[.b (.int .i64)], [(.bool, .rd)]⟩
def spec_l3Word.E : Env := ⟨tys, bys, [(93, ⟨spec_l1In.sg, spec_l1In.F⟩)], eqs⟩
def spec_l3Word.F (k : Nat) (x : (Int × Unit)) : Option ((Bool × Unit) × Unit) :=
  (spec_l1In.F k (x.1, (0 : Int), (65535 : Int), ())).bind fun y0 =>
  some y0
def spec_l3Word.hd : Hints := ⟨[], [], [2], [0], []⟩
def spec_l3Word.lps (k : Nat) : List (Nat × Lp spec_l3Word.sg.Out) := []
theorem spec_l3Word.loops (k : Nat) : LoopsOk spec_l3Word.E k spec_l3Word.hd (spec_l3Word.lps k) (loopsOf (Go.Proofs.Tryz.f127.body.getD .skip)) := trivial
theorem spec_l3Word.den (k : Nat) (x : Sig.In spec_l3Word.sg.ps) : denFn spec_l3Word.E k Go.Proofs.Tryz.f127 spec_l3Word.sg spec_l3Word.hd (runL k spec_l3Word.hd (spec_l3Word.lps k)) x = spec_l3Word.F k x := by kernel_rfl
theorem spec_l3Word.ok (k : Nat) : Contract Tryz.prog 127 spec_l3Word.sg (spec_l3Word.F k) := ok_of (E := spec_l3Word.E) (tysOk _ _) (eqsOk _) ⟨spec_l1In.ok k, trivial⟩ Tryz.func127 rfl (by kernel_rfl) (spec_l3Word.loops k) (spec_l3Word.den k)
def spec_RuleFault.sg : Sig := ⟨[.b kRule], [((.int .i64), .rd)]⟩
def spec_RuleFault.E : Env := ⟨tys, bys, [(93, ⟨spec_l1In.sg, spec_l1In.F⟩), (126, ⟨spec_PrefixFault.sg, spec_PrefixFault.F⟩), (127, ⟨spec_l3Word.sg, spec_l3Word.F⟩)], eqs⟩
def spec_RuleFault.F (k : Nat) (x : (((Int × (Int × Unit)) × (Int × (Int × (Int × (Bool × (Int × (Int × Unit))))))) × Unit)) : Option ((Int × Unit) × Unit) :=
  (spec_PrefixFault.F k (x.1.1, ())).bind fun y0 =>
  bif (y0.1.1 != (0 : Int)) then
  (some y0)
  else (spec_l1In.F k (x.1.2.1, (0 : Int), (16 : Int), ())).bind fun y1 =>
    bif (!y1.1.1) then
    (some (((3 : Int), ()), ()))
    else (spec_l1In.F k (x.1.2.2.1, (0 : Int), (16 : Int), ())).bind fun y2 =>
      bif (!y2.1.1) then
      (some (((3 : Int), ()), ()))
      else (spec_l3Word.F k (x.1.2.2.2.1, ())).bind fun y3 =>
        bif (!y3.1.1) then
        (some (((3 : Int), ()), ()))
        else (spec_l1In.F k (x.1.2.2.2.2.2.1, (-(1 : Int)), (65535 : Int), ())).bind fun y4 =>
          bif (!y4.1.1) then
          (some (((3 : Int), ()), ()))
          else (spec_l1In.F k (x.1.2.2.2.2.2.2.1, (0 : Int), (3 : Int), ())).bind fun y5 =>
            bif (!y5.1.1) then
            (some (((3 : Int), ()), ()))
            else bif (decide ((x.1.2.1 > x.1.2.2.1))) then
              (some (((1 : Int), ()), ()))
              else bif x.1.2.2.2.2.1 then
                (bif (x.1.2.2.2.2.2.1 != (-(1 : Int))) then
                  (some (((1 : Int), ()), ()))
                  else bif (x.1.2.2.2.2.2.2.1 != (0 : Int)) then
                    (some (((1 : Int), ()), ()))
                    else some (((0 : Int), ()), ()))
                else some (((0 : Int), ()), ())
def spec_RuleFault.hd : Hints := ⟨[], [], [2], [0, 1, 3], []⟩
def spec_RuleFault.lps (k : Nat) : List (Nat × Lp spec_RuleFault.sg.Out) := []
theorem spec_RuleFault.loops (k : Nat) : LoopsOk spec_RuleFault.E k spec_RuleFault.hd (spec_RuleFault.lps k) (loopsOf (Go.Proofs.Tryz.f118.body.getD .skip)) := trivial
theorem spec_RuleFault.den (k : Nat) (x : Sig.In spec_RuleFault.sg.ps) : denFn spec_RuleFault.E k Go.Proofs.Tryz.f118 spec_RuleFault.sg spec_RuleFault.hd (runL k spec_RuleFault.hd (spec_RuleFault.lps k)) x = spec_RuleFault.F k x := by kernel_rfl
theorem spec_RuleFault.ok (k : Nat) : Contract Tryz.prog 118 spec_RuleFault.sg (spec_RuleFault.F k) := ok_of (E := spec_RuleFault.E) (tysOk _ _) (eqsOk _) ⟨spec_l1In.ok k, spec_PrefixFault.ok k, spec_l3Word.ok k, trivial⟩ Tryz.func118 rfl (by kernel_rfl) (spec_RuleFault.loops k) (spec_RuleFault.den k)
def spec_RulesFault.sg : Sig := ⟨[.b (.sl kRule)], [((.int .i64), .rd)]⟩
def spec_RulesFault.E : Env := ⟨tys, bys, [(118, ⟨spec_RuleFault.sg, spec_RuleFault.F⟩)], eqs⟩
def spec_RulesFault.l4 {ρ : Type} (k : Nat) (c0 : (Int × Unit) → Option ρ) (c1 : Unit → Option ρ) : Nat → List ((Int × (Int × Unit)) × (Int × (Int × (Int × (Bool × (Int × (Int × Unit))))))) → Int → Option ρ
  | 0 => fun _ _ => none
  | n + 1 => fun x0 x1 => 
    bif (decide ((x1 < (((List.length x0) : Nat) : Int)))) then
    (bif (Go.Dn.inB x1 (((List.length x0) : Nat) : Int)) then
      (Go.Dn.share (List.getD x0 (Int.toNat x1) (((0 : Int), ((0 : Int), ())), ((0 : Int), ((0 : Int), ((0 : Int), (false, ((0 : Int), ((0 : Int), ())))))))) fun s0 =>
        (spec_RuleFault.F k (s0, ())).bind fun y1 =>
        bif (y1.1.1 != (0 : Int)) then
        (c0 (y1.1.1, ()))
        else spec_RulesFault.l4 k c0 c1 n x0 (IntKind.wrap .i64 (x1 + (1 : Int))))
      else none)
    else c1 (())
def spec_RulesFault.F (k : Nat) (x : ((List ((Int × (Int × Unit)) × (Int × (Int × (Int × (Bool × (Int × (Int × Unit)))))))) × Unit)) : Option ((Int × Unit) × Unit) :=
  bif (decide (((((List.length x.1) : Nat) : Int) > (8 : Int)))) then
  (some (((2 : Int), ()), ()))
  else spec_RulesFault.l4 k (fun e2 =>
      some (e2, ())) (fun e3 =>
      some (((0 : Int), ()), ())) k x.1 (0 : Int)
def spec_RulesFault.hd : Hints := ⟨[(4, ⟨[0, 3], []⟩)], [(0, []), (1, [0, 3])], [2], [0, 3, 4], []⟩
def spec_RulesFault.lps (k : Nat) : List (Nat × Lp spec_RulesFault.sg.Out) := [(4, ⟨[.l kRule, .i], fun x => (fun x0 x1 => ⟨[(0, .v false [.fz kRule x0]), (3, .v false [.int .i64 x1])], [], []⟩) x.1 x.2.1, fun C n x => spec_RulesFault.l4 k (fun y => C .ret ((fun y0 => ⟨[(2, .v false [.int .i64 y0])], [], []⟩) y.1)) (fun _ => C (.exit 0) ⟨[], [], []⟩) n x.1 x.2.1⟩)]
theorem spec_RulesFault.loops (k : Nat) : LoopsOk spec_RulesFault.E k spec_RulesFault.hd (spec_RulesFault.lps k) (loopsOf (Go.Proofs.Tryz.f91.body.getD .skip)) := ⟨⟨fun _ _ => rfl, fun _ _ _ => by kernel_rfl, fun _ => ⟨rfl, rfl⟩⟩, trivial⟩
theorem spec_RulesFault.den (k : Nat) (x : Sig.In spec_RulesFault.sg.ps) : denFn spec_RulesFault.E k Go.Proofs.Tryz.f91 spec_RulesFault.sg spec_RulesFault.hd (runL k spec_RulesFault.hd (spec_RulesFault.lps k)) x = spec_RulesFault.F k x := by kernel_rfl
theorem spec_RulesFault.ok (k : Nat) : Contract Tryz.prog 91 spec_RulesFault.sg (spec_RulesFault.F k) := ok_of (E := spec_RulesFault.E) (tysOk _ _) (eqsOk _) ⟨spec_RuleFault.ok k, trivial⟩ Tryz.func91 rfl (by kernel_rfl) (spec_RulesFault.loops k) (spec_RulesFault.den k)
def spec_SettingsFault.sg : Sig := ⟨[.b kSettings], [((.int .i64), .rd)]⟩
def spec_SettingsFault.E : Env := ⟨tys, bys, [(89, ⟨spec_ConfigFault.sg, spec_ConfigFault.F⟩), (90, ⟨spec_l2Addr.sg, spec_l2Addr.F⟩), (91, ⟨spec_RulesFault.sg, spec_RulesFault.F⟩)], eqs⟩
def spec_SettingsFault.F (k : Nat) (x : (((Int × (Int × (Int × Unit))) × (Int × ((List ((Int × (Int × Unit)) × (Int × (Int × (Int × (Bool × (Int × (Int × Unit)))))))) × ((List ((Int × (Int × Unit)) × (Int × (Int × (Int × (Bool × (Int × (Int × Unit)))))))) × Unit)))) × Unit)) : Option ((Int × Unit) × Unit) :=
  (spec_ConfigFault.F k (x.1.1, ())).bind fun y0 =>
  bif (y0.1.1 != (0 : Int)) then
  (some y0)
  else (spec_l2Addr.F k (x.1.2.1, ())).bind fun y1 =>
    bif (!y1.1.1) then
    (some (((3 : Int), ()), ()))
    else (spec_RulesFault.F k (x.1.2.2.1, ())).bind fun y2 =>
      bif (y2.1.1 != (0 : Int)) then
      (some y2)
      else (spec_RulesFault.F k x.1.2.2.2).bind fun y3 =>
        some y3
def spec_SettingsFault.hd : Hints := ⟨[], [], [2], [0, 1, 3, 4], []⟩
def spec_SettingsFault.lps (k : Nat) : List (Nat × Lp spec_SettingsFault.sg.Out) := []
theorem spec_SettingsFault.loops (k : Nat) : LoopsOk spec_SettingsFault.E k spec_SettingsFault.hd (spec_SettingsFault.lps k) (loopsOf (Go.Proofs.Tryz.f50.body.getD .skip)) := trivial
theorem spec_SettingsFault.den (k : Nat) (x : Sig.In spec_SettingsFault.sg.ps) : denFn spec_SettingsFault.E k Go.Proofs.Tryz.f50 spec_SettingsFault.sg spec_SettingsFault.hd (runL k spec_SettingsFault.hd (spec_SettingsFault.lps k)) x = spec_SettingsFault.F k x := by kernel_rfl
theorem spec_SettingsFault.ok (k : Nat) : Contract Tryz.prog 50 spec_SettingsFault.sg (spec_SettingsFault.F k) := ok_of (E := spec_SettingsFault.E) (tysOk _ _) (eqsOk _) ⟨spec_ConfigFault.ok k, spec_l2Addr.ok k, spec_RulesFault.ok k, trivial⟩ Tryz.func50 rfl (by kernel_rfl) (spec_SettingsFault.loops k) (spec_SettingsFault.den k)
def spec_l10Epoch.sg : Sig := ⟨[.b (.int .i64)], [(.bool, .rd)]⟩
def spec_l10Epoch.E : Env := ⟨tys, bys, [(93, ⟨spec_l1In.sg, spec_l1In.F⟩)], eqs⟩
def spec_l10Epoch.F (k : Nat) (x : (Int × Unit)) : Option ((Bool × Unit) × Unit) :=
  (spec_l1In.F k (x.1, (1 : Int), (1000 : Int), ())).bind fun y0 =>
  some y0
def spec_l10Epoch.hd : Hints := ⟨[], [], [2], [0], []⟩
def spec_l10Epoch.lps (k : Nat) : List (Nat × Lp spec_l10Epoch.sg.Out) := []
theorem spec_l10Epoch.loops (k : Nat) : LoopsOk spec_l10Epoch.E k spec_l10Epoch.hd (spec_l10Epoch.lps k) (loopsOf (Go.Proofs.Tryz.f95.body.getD .skip)) := trivial
theorem spec_l10Epoch.den (k : Nat) (x : Sig.In spec_l10Epoch.sg.ps) : denFn spec_l10Epoch.E k Go.Proofs.Tryz.f95 spec_l10Epoch.sg spec_l10Epoch.hd (runL k spec_l10Epoch.hd (spec_l10Epoch.lps k)) x = spec_l10Epoch.F k x := by kernel_rfl
theorem spec_l10Epoch.ok (k : Nat) : Contract Tryz.prog 95 spec_l10Epoch.sg (spec_l10Epoch.F k) := ok_of (E := spec_l10Epoch.E) (tysOk _ _) (eqsOk _) ⟨spec_l1In.ok k, trivial⟩ Tryz.func95 rfl (by kernel_rfl) (spec_l10Epoch.loops k) (spec_l10Epoch.den k)
def spec_l7Peer.sg : Sig := ⟨[.b (.int .i64)], [(.bool, .rd)]⟩
def spec_l7Peer.E : Env := ⟨tys, bys, [(93, ⟨spec_l1In.sg, spec_l1In.F⟩)], eqs⟩
def spec_l7Peer.F (k : Nat) (x : (Int × Unit)) : Option ((Bool × Unit) × Unit) :=
  (spec_l1In.F k (x.1, (0 : Int), (2 : Int), ())).bind fun y0 =>
  some y0
def spec_l7Peer.hd : Hints := ⟨[], [], [2], [0], []⟩
def spec_l7Peer.lps (k : Nat) : List (Nat × Lp spec_l7Peer.sg.Out) := []
theorem spec_l7Peer.loops (k : Nat) : LoopsOk spec_l7Peer.E k spec_l7Peer.hd (spec_l7Peer.lps k) (loopsOf (Go.Proofs.Tryz.f81.body.getD .skip)) := trivial
theorem spec_l7Peer.den (k : Nat) (x : Sig.In spec_l7Peer.sg.ps) : denFn spec_l7Peer.E k Go.Proofs.Tryz.f81 spec_l7Peer.sg spec_l7Peer.hd (runL k spec_l7Peer.hd (spec_l7Peer.lps k)) x = spec_l7Peer.F k x := by kernel_rfl
theorem spec_l7Peer.ok (k : Nat) : Contract Tryz.prog 81 spec_l7Peer.sg (spec_l7Peer.F k) := ok_of (E := spec_l7Peer.E) (tysOk _ _) (eqsOk _) ⟨spec_l1In.ok k, trivial⟩ Tryz.func81 rfl (by kernel_rfl) (spec_l7Peer.loops k) (spec_l7Peer.den k)
def spec_EventFault.sg : Sig := ⟨[.b kEvent], [((.int .i64), .rd)]⟩
def spec_EventFault.E : Env := ⟨tys, bys, [(81, ⟨spec_l7Peer.sg, spec_l7Peer.F⟩), (93, ⟨spec_l1In.sg, spec_l1In.F⟩)], eqs⟩
def spec_EventFault.F (k : Nat) (x : ((Int × (Int × ((List Int) × Unit))) × Unit)) : Option ((Int × Unit) × Unit) :=
  (spec_l1In.F k (x.1.1, (1 : Int), (4 : Int), ())).bind fun y0 =>
  bif (!y0.1.1) then
  (some (((1 : Int), ()), ()))
  else (spec_l7Peer.F k (x.1.2.1, ())).bind fun y1 =>
    bif (!y1.1.1) then
    (some (((3 : Int), ()), ()))
    else bif (x.1.1 == (3 : Int)) then
      (bif (x.1.2.1 != (0 : Int)) then
        (some (((3 : Int), ()), ()))
        else bif (!((decide (((((List.length x.1.2.2.1) : Nat) : Int) > (0 : Int)))) == (x.1.1 == (2 : Int)))) then
          (some (((1 : Int), ()), ()))
          else bif (decide (((((List.length x.1.2.2.1) : Nat) : Int) > (60 : Int)))) then
            (some (((2 : Int), ()), ()))
            else some (((0 : Int), ()), ()))
      else bif (!((decide (((((List.length x.1.2.2.1) : Nat) : Int) > (0 : Int)))) == (x.1.1 == (2 : Int)))) then
        (some (((1 : Int), ()), ()))
        else bif (decide (((((List.length x.1.2.2.1) : Nat) : Int) > (60 : Int)))) then
          (some (((2 : Int), ()), ()))
          else some (((0 : Int), ()), ())
def spec_EventFault.hd : Hints := ⟨[], [], [2], [0, 1], []⟩
def spec_EventFault.lps (k : Nat) : List (Nat × Lp spec_EventFault.sg.Out) := []
theorem spec_EventFault.loops (k : Nat) : LoopsOk spec_EventFault.E k spec_EventFault.hd (spec_EventFault.lps k) (loopsOf (Go.Proofs.Tryz.f96.body.getD .skip)) := trivial
theorem spec_EventFault.den (k : Nat) (x : Sig.In spec_EventFault.sg.ps) : denFn spec_EventFault.E k Go.Proofs.Tryz.f96 spec_EventFault.sg spec_EventFault.hd (runL k spec_EventFault.hd (spec_EventFault.lps k)) x = spec_EventFault.F k x := by kernel_rfl
theorem spec_EventFault.ok (k : Nat) : Contract Tryz.prog 96 spec_EventFault.sg (spec_EventFault.F k) := ok_of (E := spec_EventFault.E) (tysOk _ _) (eqsOk _) ⟨spec_l7Peer.ok k, spec_l1In.ok k, trivial⟩ Tryz.func96 rfl (by kernel_rfl) (spec_EventFault.loops k) (spec_EventFault.den k)
def spec_EntryFault.sg : Sig := ⟨[.b kEntry], [((.int .i64), .rd)]⟩
def spec_EntryFault.E : Env := ⟨tys, bys, [(95, ⟨spec_l10Epoch.sg, spec_l10Epoch.F⟩), (96, ⟨spec_EventFault.sg, spec_EventFault.F⟩)], eqs⟩
def spec_EntryFault.F (k : Nat) (x : ((Int × ((Int × (Int × ((List Int) × Unit))) × Unit)) × Unit)) : Option ((Int × Unit) × Unit) :=
  (spec_l10Epoch.F k (x.1.1, ())).bind fun y0 =>
  bif (!y0.1.1) then
  (some (((3 : Int), ()), ()))
  else (spec_EventFault.F k x.1.2).bind fun y1 =>
    some y1
def spec_EntryFault.hd : Hints := ⟨[], [], [2], [0, 1], []⟩
def spec_EntryFault.lps (k : Nat) : List (Nat × Lp spec_EntryFault.sg.Out) := []
theorem spec_EntryFault.loops (k : Nat) : LoopsOk spec_EntryFault.E k spec_EntryFault.hd (spec_EntryFault.lps k) (loopsOf (Go.Proofs.Tryz.f54.body.getD .skip)) := trivial
theorem spec_EntryFault.den (k : Nat) (x : Sig.In spec_EntryFault.sg.ps) : denFn spec_EntryFault.E k Go.Proofs.Tryz.f54 spec_EntryFault.sg spec_EntryFault.hd (runL k spec_EntryFault.hd (spec_EntryFault.lps k)) x = spec_EntryFault.F k x := by kernel_rfl
theorem spec_EntryFault.ok (k : Nat) : Contract Tryz.prog 54 spec_EntryFault.sg (spec_EntryFault.F k) := ok_of (E := spec_EntryFault.E) (tysOk _ _) (eqsOk _) ⟨spec_l10Epoch.ok k, spec_EventFault.ok k, trivial⟩ Tryz.func54 rfl (by kernel_rfl) (spec_EntryFault.loops k) (spec_EntryFault.den k)
def spec_l12Log.sg : Sig := ⟨[.r kNode], [((.int .i64), .rd)]⟩
def spec_l12Log.E : Env := ⟨tys, bys, [(54, ⟨spec_EntryFault.sg, spec_EntryFault.F⟩)], eqs⟩
def spec_l12Log.l4 {ρ : Type} (k : Nat) (c0 : (Int × Unit) → Option ρ) (c1 : Unit → Option ρ) : Nat → (Int × (Bool × (Int × (Int × ((List (Int × ((Int × (Int × ((List Int) × Unit))) × Unit))) × (Int × (Int × (Int × (Int × Unit))))))))) → Int → Option ρ
  | 0 => fun _ _ => none
  | n + 1 => fun x0 x1 => 
    bif (decide ((x1 < (((List.length x0.2.2.2.2.1) : Nat) : Int)))) then
    (bif (Go.Dn.inB x1 (((List.length x0.2.2.2.2.1) : Nat) : Int)) then
      (Go.Dn.share (List.getD x0.2.2.2.2.1 (Int.toNat x1) ((0 : Int), (((0 : Int), ((0 : Int), (([] : List Int), ()))), ()))) fun s0 =>
        (spec_EntryFault.F k (s0, ())).bind fun y1 =>
        bif (y1.1.1 != (0 : Int)) then
        (c0 (y1.1.1, ()))
        else bif (Go.Dn.inB x1 (((List.length x0.2.2.2.2.1) : Nat) : Int)) then
          (Go.Dn.share (List.getD x0.2.2.2.2.1 (Int.toNat x1) ((0 : Int), (((0 : Int), ((0 : Int), (([] : List Int), ()))), ()))) fun s2 =>
            bif (decide ((s2.1 > x0.2.2.2.1))) then
            (c0 ((1 : Int), ()))
            else bif (decide ((x1 > (0 : Int)))) then
              (bif (Go.Dn.inB x1 (((List.length x0.2.2.2.2.1) : Nat) : Int)) then
                (Go.Dn.share (List.getD x0.2.2.2.2.1 (Int.toNat x1) ((0 : Int), (((0 : Int), ((0 : Int), (([] : List Int), ()))), ()))) fun s3 =>
                  bif (Go.Dn.inB (IntKind.wrap .i64 (x1 - (1 : Int))) (((List.length x0.2.2.2.2.1) : Nat) : Int)) then
                  (Go.Dn.share (List.getD x0.2.2.2.2.1 (Int.toNat (IntKind.wrap .i64 (x1 - (1 : Int)))) ((0 : Int), (((0 : Int), ((0 : Int), (([] : List Int), ()))), ()))) fun s4 =>
                    bif (decide ((s3.1 < s4.1))) then
                    (c0 ((1 : Int), ()))
                    else spec_l12Log.l4 k c0 c1 n x0 (IntKind.wrap .i64 (x1 + (1 : Int))))
                  else none)
                else none)
              else spec_l12Log.l4 k c0 c1 n x0 (IntKind.wrap .i64 (x1 + (1 : Int))))
          else none)
      else none)
    else c1 (())
def spec_l12Log.F (k : Nat) (x : ((Int × (Bool × (Int × (Int × ((List (Int × ((Int × (Int × ((List Int) × Unit))) × Unit))) × (Int × (Int × (Int × (Int × Unit))))))))) × Unit)) : Option ((Int × Unit) × Unit) :=
  bif (decide (((((List.length x.1.2.2.2.2.1) : Nat) : Int) > (100 : Int)))) then
  (some (((2 : Int), ()), ()))
  else spec_l12Log.l4 k (fun e5 =>
      some (e5, ())) (fun e6 =>
      some (((0 : Int), ()), ())) k x.1 (0 : Int)
def spec_l12Log.hd : Hints := ⟨[(4, ⟨[0, 3], []⟩)], [(0, []), (1, [0, 3])], [2], [0, 3, 4], [(9, [0, 1, 3, 7, 0, 31, 63, 127, 0, 256, 768, 1792, 4095, 8191, 16383, 32767, 65535, 131071, 262143, 524287, 1048575, 131071, 4194303, 8388607, 16777215, 131071, 33685503, 100794367, 235012095, 131071, 537001983, 2114060287, 4261543935, 8556511231, 17179869183, 34359738367, 68719476735])]⟩
def spec_l12Log.lps (k : Nat) : List (Nat × Lp spec_l12Log.sg.Out) := [(4, ⟨[.x kNode, .i], fun x => (fun x0 x1 => ⟨[(0, .v false [.fel kNode x0 0]), (3, .v false [.int .i64 x1])], [], []⟩) x.1 x.2.1, fun C n x => spec_l12Log.l4 k (fun y => C .ret ((fun y0 => ⟨[(2, .v false [.int .i64 y0])], [], []⟩) y.1)) (fun _ => C (.exit 0) ⟨[], [], []⟩) n x.1 x.2.1⟩)]
theorem spec_l12Log.loops (k : Nat) : LoopsOk spec_l12Log.E k spec_l12Log.hd (spec_l12Log.lps k) (loopsOf (Go.Proofs.Tryz.f119.body.getD .skip)) := ⟨⟨fun _ _ => rfl, fun _ _ _ => by kernel_rfl, fun _ => ⟨rfl, rfl⟩⟩, trivial⟩
theorem spec_l12Log.den (k : Nat) (x : Sig.In spec_l12Log.sg.ps) : denFn spec_l12Log.E k Go.Proofs.Tryz.f119 spec_l12Log.sg spec_l12Log.hd (runL k spec_l12Log.hd (spec_l12Log.lps k)) x = spec_l12Log.F k x := by kernel_rfl
theorem spec_l12Log.ok (k : Nat) : Contract Tryz.prog 119 spec_l12Log.sg (spec_l12Log.F k) := ok_of (E := spec_l12Log.E) (tysOk _ _) (eqsOk _) ⟨spec_EntryFault.ok k, trivial⟩ Tryz.func119 rfl (by kernel_rfl) (spec_l12Log.loops k) (spec_l12Log.den k)
def spec_l12Fault.sg : Sig := ⟨[.r kNode], [((.int .i64), .rd)]⟩
def spec_l12Fault.E : Env := ⟨tys, bys, [(93, ⟨spec_l1In.sg, spec_l1In.F⟩), (119, ⟨spec_l12Log.sg, spec_l12Log.F⟩)], eqs⟩
def spec_l12Fault.F (k : Nat) (x : ((Int × (Bool × (Int × (Int × ((List (Int × ((Int × (Int × ((List Int) × Unit))) × Unit))) × (Int × (Int × (Int × (Int × Unit))))))))) × Unit)) : Option ((Int × Unit) × Unit) :=
  (spec_l1In.F k (x.1.1, (0 : Int), (1 : Int), ())).bind fun y0 =>
  bif (!y0.1.1) then
  (some (((3 : Int), ()), ()))
  else (spec_l1In.F k (x.1.2.2.1, (0 : Int), (1 : Int), ())).bind fun y1 =>
    bif (!y1.1.1) then
    (some (((3 : Int), ()), ()))
    else (spec_l1In.F k (x.1.2.2.2.1, (0 : Int), (1000 : Int), ())).bind fun y2 =>
      bif (!y2.1.1) then
      (some (((3 : Int), ()), ()))
      else (spec_l12Log.F k x).bind fun y3 =>
        bif (y3.1.1 != (0 : Int)) then
        (some y3)
        else (spec_l1In.F k (x.1.2.2.2.2.2.1, (0 : Int), (((List.length x.1.2.2.2.2.1) : Nat) : Int), ())).bind fun y4 =>
          bif (!y4.1.1) then
          (some (((3 : Int), ()), ()))
          else (spec_l1In.F k (x.1.2.2.2.2.2.2.1, (0 : Int), (((List.length x.1.2.2.2.2.1) : Nat) : Int), ())).bind fun y5 =>
            bif (!y5.1.1) then
            (some (((3 : Int), ()), ()))
            else (spec_l1In.F k (x.1.2.2.2.2.2.2.2.1, (0 : Int), (((List.length x.1.2.2.2.2.1) : Nat) : Int), ())).bind fun y6 =>
              bif (!y6.1.1) then
              (some (((3 : Int), ()), ()))
              else (spec_l1In.F k (x.1.2.2.2.2.2.2.2.2.1, (0 : Int), x.1.2.2.2.2.2.1, ())).bind fun y7 =>
                bif (!y7.1.1) then
                (some (((3 : Int), ()), ()))
                else bif (x.1.2.2.1 == (1 : Int)) then
                  (bif (!x.1.2.1) then
                    (some (((1 : Int), ()), ()))
                    else bif (x.1.2.2.2.1 == (0 : Int)) then
                      (some (((1 : Int), ()), ()))
                      else bif (x.1.2.2.2.2.2.2.1 != (0 : Int)) then
                        (some (((1 : Int), ()), ()))
                        else bif (!(x.1.2.2.1 == (1 : Int))) then
                          (bif (x.1.2.2.2.2.2.2.2.1 != (0 : Int)) then
                            (some (((1 : Int), ()), ()))
                            else bif (!x.1.2.1) then
                              (bif (x.1.2.2.2.2.2.1 != (((List.length x.1.2.2.2.2.1) : Nat) : Int)) then
                                (some (((1 : Int), ()), ()))
                                else bif (x.1.2.2.2.2.2.2.1 != (0 : Int)) then
                                  (some (((1 : Int), ()), ()))
                                  else bif (x.1.2.2.2.2.2.2.2.2.1 != (0 : Int)) then
                                    (some (((1 : Int), ()), ()))
                                    else some (((0 : Int), ()), ()))
                              else some (((0 : Int), ()), ()))
                          else bif (!x.1.2.1) then
                            (bif (x.1.2.2.2.2.2.1 != (((List.length x.1.2.2.2.2.1) : Nat) : Int)) then
                              (some (((1 : Int), ()), ()))
                              else bif (x.1.2.2.2.2.2.2.1 != (0 : Int)) then
                                (some (((1 : Int), ()), ()))
                                else bif (x.1.2.2.2.2.2.2.2.2.1 != (0 : Int)) then
                                  (some (((1 : Int), ()), ()))
                                  else some (((0 : Int), ()), ()))
                            else some (((0 : Int), ()), ()))
                  else bif (!(x.1.2.2.1 == (1 : Int))) then
                    (bif (x.1.2.2.2.2.2.2.2.1 != (0 : Int)) then
                      (some (((1 : Int), ()), ()))
                      else bif (!x.1.2.1) then
                        (bif (x.1.2.2.2.2.2.1 != (((List.length x.1.2.2.2.2.1) : Nat) : Int)) then
                          (some (((1 : Int), ()), ()))
                          else bif (x.1.2.2.2.2.2.2.1 != (0 : Int)) then
                            (some (((1 : Int), ()), ()))
                            else bif (x.1.2.2.2.2.2.2.2.2.1 != (0 : Int)) then
                              (some (((1 : Int), ()), ()))
                              else some (((0 : Int), ()), ()))
                        else some (((0 : Int), ()), ()))
                    else bif (!x.1.2.1) then
                      (bif (x.1.2.2.2.2.2.1 != (((List.length x.1.2.2.2.2.1) : Nat) : Int)) then
                        (some (((1 : Int), ()), ()))
                        else bif (x.1.2.2.2.2.2.2.1 != (0 : Int)) then
                          (some (((1 : Int), ()), ()))
                          else bif (x.1.2.2.2.2.2.2.2.2.1 != (0 : Int)) then
                            (some (((1 : Int), ()), ()))
                            else some (((0 : Int), ()), ()))
                      else some (((0 : Int), ()), ())
def spec_l12Fault.hd : Hints := ⟨[], [], [2], [0, 3, 4, 5], [(7, [0, 1, 3, 7, 0, 31, 63, 127, 255, 511, 1023, 2047, 255, 8191, 16383, 32767, 65535, 131071, 262143, 524287, 1048575, 131071, 4194303, 8388607, 16777215, 33554431, 67108863, 134217727, 268435455, 536870911, 67108863, 1140850687, 3288334335, 7583301631, 17179869183, 34359738367, 68719476735])]⟩
def spec_l12Fault.lps (k : Nat) : List (Nat × Lp spec_l12Fault.sg.Out) := []
theorem spec_l12Fault.loops (k : Nat) : LoopsOk spec_l12Fault.E k spec_l12Fault.hd (spec_l12Fault.lps k) (loopsOf (Go.Proofs.Tryz.f92.body.getD .skip)) := trivial
theorem spec_l12Fault.den (k : Nat) (x : Sig.In spec_l12Fault.sg.ps) : denFn spec_l12Fault.E k Go.Proofs.Tryz.f92 spec_l12Fault.sg spec_l12Fault.hd (runL k spec_l12Fault.hd (spec_l12Fault.lps k)) x = spec_l12Fault.F k x := by kernel_rfl
theorem spec_l12Fault.ok (k : Nat) : Contract Tryz.prog 92 spec_l12Fault.sg (spec_l12Fault.F k) := ok_of (E := spec_l12Fault.E) (tysOk _ _) (eqsOk _) ⟨spec_l1In.ok k, spec_l12Log.ok k, trivial⟩ Tryz.func92 rfl (by kernel_rfl) (spec_l12Fault.loops k) (spec_l12Fault.den k)
def spec_l14Nodes.sg : Sig := ⟨[.r kPair], [((.int .i64), .rd)]⟩
def spec_l14Nodes.E : Env := ⟨tys, bys, [(92, ⟨spec_l12Fault.sg, spec_l12Fault.F⟩)], eqs⟩
def spec_l14Nodes.l2 {ρ : Type} (k : Nat) (c0 : (Int × Unit) → Option ρ) (c1 : Unit → Option ρ) : Nat → (((Int × (Int × (Int × Unit))) × (Int × ((List ((Int × (Int × Unit)) × (Int × (Int × (Int × (Bool × (Int × (Int × Unit)))))))) × ((List ((Int × (Int × Unit)) × (Int × (Int × (Int × (Bool × (Int × (Int × Unit)))))))) × Unit)))) × ((List (Int × (Bool × (Int × (Int × ((List (Int × ((Int × (Int × ((List Int) × Unit))) × Unit))) × (Int × (Int × (Int × (Int × Unit)))))))))) × ((List (Int × ((List Int) × (Int × ((List Int) × Unit))))) × ((List (Int × (Int × (Int × (Int × (Int × (Bool × ((Int × ((Int × (Int × ((List Int) × Unit))) × Unit)) × Unit)))))))) × ((List (Int × ((Int × (Int × ((List Int) × Unit))) × Unit))) × Unit))))) → Int → Option ρ
  | 0 => fun _ _ => none
  | n + 1 => fun x0 x1 => 
    bif (decide ((x1 < (2 : Int)))) then
    (bif (Go.Dn.inB x1 (((List.length x0.2.1) : Nat) : Int)) then
      (Go.Dn.share (List.getD x0.2.1 (Int.toNat x1) ((0 : Int), (false, ((0 : Int), ((0 : Int), (([] : List (Int × ((Int × (Int × ((List Int) × Unit))) × Unit))), ((0 : Int), ((0 : Int), ((0 : Int), ((0 : Int), ())))))))))) fun s0 =>
        (spec_l12Fault.F k (s0, ())).bind fun y1 =>
        bif (y1.1.1 != (0 : Int)) then
        (c0 (y1.1.1, ()))
        else bif (Go.Dn.inB x1 (((List.length x0.2.1) : Nat) : Int)) then
          (Go.Dn.share (List.getD x0.2.1 (Int.toNat x1) ((0 : Int), (false, ((0 : Int), ((0 : Int), (([] : List (Int × ((Int × (Int × ((List Int) × Unit))) × Unit))), ((0 : Int), ((0 : Int), ((0 : Int), ((0 : Int), ())))))))))) fun s2 =>
            bif (s2.1 != x1) then
            (c0 ((1 : Int), ()))
            else spec_l14Nodes.l2 k c0 c1 n x0 (IntKind.wrap .i64 (x1 + (1 : Int))))
          else none)
      else none)
    else c1 (())
def spec_l14Nodes.F (k : Nat) (x : ((((Int × (Int × (Int × Unit))) × (Int × ((List ((Int × (Int × Unit)) × (Int × (Int × (Int × (Bool × (Int × (Int × Unit)))))))) × ((List ((Int × (Int × Unit)) × (Int × (Int × (Int × (Bool × (Int × (Int × Unit)))))))) × Unit)))) × ((List (Int × (Bool × (Int × (Int × ((List (Int × ((Int × (Int × ((List Int) × Unit))) × Unit))) × (Int × (Int × (Int × (Int × Unit)))))))))) × ((List (Int × ((List Int) × (Int × ((List Int) × Unit))))) × ((List (Int × (Int × (Int × (Int × (Int × (Bool × ((Int × ((Int × (Int × ((List Int) × Unit))) × Unit)) × Unit)))))))) × ((List (Int × ((Int × (Int × ((List Int) × Unit))) × Unit))) × Unit))))) × Unit)) : Option ((Int × Unit) × Unit) :=
  spec_l14Nodes.l2 k (fun e3 =>
    some (e3, ())) (fun e4 =>
    some (((0 : Int), ()), ())) k x.1 (0 : Int)
def spec_l14Nodes.hd : Hints := ⟨[(2, ⟨[0, 3], []⟩)], [(0, []), (1, [0, 3])], [2], [0, 3, 4], []⟩
def spec_l14Nodes.lps (k : Nat) : List (Nat × Lp spec_l14Nodes.sg.Out) := [(2, ⟨[.x kPair, .i], fun x => (fun x0 x1 => ⟨[(0, .v false [.fel kPair x0 0]), (3, .v false [.int .i64 x1])], [], []⟩) x.1 x.2.1, fun C n x => spec_l14Nodes.l2 k (fun y => C .ret ((fun y0 => ⟨[(2, .v false [.int .i64 y0])], [], []⟩) y.1)) (fun _ => C (.exit 0) ⟨[], [], []⟩) n x.1 x.2.1⟩)]
theorem spec_l14Nodes.loops (k : Nat) : LoopsOk spec_l14Nodes.E k spec_l14Nodes.hd (spec_l14Nodes.lps k) (loopsOf (Go.Proofs.Tryz.f51.body.getD .skip)) := ⟨⟨fun _ _ => rfl, fun _ _ _ => by kernel_rfl, fun _ => ⟨rfl, rfl⟩⟩, trivial⟩
theorem spec_l14Nodes.den (k : Nat) (x : Sig.In spec_l14Nodes.sg.ps) : denFn spec_l14Nodes.E k Go.Proofs.Tryz.f51 spec_l14Nodes.sg spec_l14Nodes.hd (runL k spec_l14Nodes.hd (spec_l14Nodes.lps k)) x = spec_l14Nodes.F k x := by kernel_rfl
theorem spec_l14Nodes.ok (k : Nat) : Contract Tryz.prog 51 spec_l14Nodes.sg (spec_l14Nodes.F k) := ok_of (E := spec_l14Nodes.E) (tysOk _ _) (eqsOk _) ⟨spec_l12Fault.ok k, trivial⟩ Tryz.func51 rfl (by kernel_rfl) (spec_l14Nodes.loops k) (spec_l14Nodes.den k)
def spec_WireFault.sg : Sig := ⟨[.b kWire], [((.int .i64), .rd)]⟩
def spec_WireFault.E : Env := ⟨tys, bys, [(93, ⟨spec_l1In.sg, spec_l1In.F⟩)], eqs⟩
def spec_WireFault.F (k : Nat) (x : ((Int × ((List Int) × (Int × ((List Int) × Unit)))) × Unit)) : Option ((Int × Unit) × Unit) :=
  (spec_l1In.F k (x.1.1, (0 : Int), (1000 : Int), ())).bind fun y0 =>
  bif (!y0.1.1) then
  (some (((3 : Int), ()), ()))
  else bif (decide (((((List.length x.1.2.1) : Nat) : Int) > (2000 : Int)))) then
    (some (((2 : Int), ()), ()))
    else bif (decide (((((List.length x.1.2.2.2.1) : Nat) : Int) > (2000 : Int)))) then
      (some (((2 : Int), ()), ()))
      else (spec_l1In.F k (x.1.2.2.1, (0 : Int), (((List.length x.1.2.1) : Nat) : Int), ())).bind fun y1 =>
        bif (!y1.1.1) then
        (some (((3 : Int), ()), ()))
        else some (((0 : Int), ()), ())
def spec_WireFault.hd : Hints := ⟨[], [], [2], [0, 1], []⟩
def spec_WireFault.lps (k : Nat) : List (Nat × Lp spec_WireFault.sg.Out) := []
theorem spec_WireFault.loops (k : Nat) : LoopsOk spec_WireFault.E k spec_WireFault.hd (spec_WireFault.lps k) (loopsOf (Go.Proofs.Tryz.f52.body.getD .skip)) := trivial
theorem spec_WireFault.den (k : Nat) (x : Sig.In spec_WireFault.sg.ps) : denFn spec_WireFault.E k Go.Proofs.Tryz.f52 spec_WireFault.sg spec_WireFault.hd (runL k spec_WireFault.hd (spec_WireFault.lps k)) x = spec_WireFault.F k x := by kernel_rfl
theorem spec_WireFault.ok (k : Nat) : Contract Tryz.prog 52 spec_WireFault.sg (spec_WireFault.F k) := ok_of (E := spec_WireFault.E) (tysOk _ _) (eqsOk _) ⟨spec_l1In.ok k, trivial⟩ Tryz.func52 rfl (by kernel_rfl) (spec_WireFault.loops k) (spec_WireFault.den k)
def spec_l12Zero.sg : Sig := ⟨[.b kEntry], [(.bool, .rd)]⟩
def spec_l12Zero.E : Env := ⟨tys, bys, [], eqs⟩
def spec_l12Zero.F (k : Nat) (x : ((Int × ((Int × (Int × ((List Int) × Unit))) × Unit)) × Unit)) : Option ((Bool × Unit) × Unit) :=
  bif (x.1.1 == (0 : Int)) then
  (bif (x.1.2.1.1 == (0 : Int)) then
    (bif (x.1.2.1.2.1 == (0 : Int)) then
      (some ((((((List.length x.1.2.1.2.2.1) : Nat) : Int) == (0 : Int)), ()), ()))
      else some ((false, ()), ()))
    else some ((false, ()), ()))
  else some ((false, ()), ())
def spec_l12Zero.hd : Hints := ⟨[], [], [2], [0, 1], []⟩
def spec_l12Zero.lps (k : Nat) : List (Nat × Lp spec_l12Zero.sg.Out) := []
theorem spec_l12Zero.loops (k : Nat) : LoopsOk spec_l12Zero.E k spec_l12Zero.hd (spec_l12Zero.lps k) (loopsOf (Go.Proofs.Tryz.f128.body.getD .skip)) := trivial
theorem spec_l12Zero.den (k : Nat) (x : Sig.In spec_l12Zero.sg.ps) : denFn spec_l12Zero.E k Go.Proofs.Tryz.f128 spec_l12Zero.sg spec_l12Zero.hd (runL k spec_l12Zero.hd (spec_l12Zero.lps k)) x = spec_l12Zero.F k x := by kernel_rfl
theorem spec_l12Zero.ok (k : Nat) : Contract Tryz.prog 128 spec_l12Zero.sg (spec_l12Zero.F k) := ok_of (E := spec_l12Zero.E) (tysOk _ _) (eqsOk _) trivial Tryz.func128 rfl (by kernel_rfl) (spec_l12Zero.loops k) (spec_l12Zero.den k)
def spec_l12Form.sg : Sig := ⟨[.b kMail], [(.bool, .rd)]⟩
def spec_l12Form.E : Env := ⟨tys, bys, [(128, ⟨spec_l12Zero.sg, spec_l12Zero.F⟩)], eqs⟩
def spec_l12Form.F (k : Nat) (x : ((Int × (Int × (Int × (Int × (Int × (Bool × ((Int × ((Int × (Int × ((List Int) × Unit))) × Unit)) × Unit))))))) × Unit)) : Option ((Bool × Unit) × Unit) :=
  bif (x.1.1 == (2 : Int)) then
  (bif (!x.1.2.2.2.2.2.1) then
    (bif (x.1.2.2.2.2.1 == (0 : Int)) then
      ((spec_l12Zero.F k x.1.2.2.2.2.2.2).bind fun y0 =>
        some y0)
      else some ((false, ()), ()))
    else some ((false, ()), ()))
  else bif ((x.1.2.2.2.1 == (0 : Int)) == (x.1.2.2.2.2.1 == (0 : Int))) then
    (bif x.1.2.2.2.2.2.1 then
      (some (((decide ((x.1.2.2.2.2.1 ≤ x.1.2.2.1))), ()), ()))
      else (spec_l12Zero.F k x.1.2.2.2.2.2.2).bind fun y1 =>
        bif y1.1.1 then
        (some (((decide ((x.1.2.2.2.2.1 ≤ x.1.2.2.1))), ()), ()))
        else some ((false, ()), ()))
    else some ((false, ()), ())
def spec_l12Form.hd : Hints := ⟨[], [], [2], [0, 1], []⟩
def spec_l12Form.lps (k : Nat) : List (Nat × Lp spec_l12Form.sg.Out) := []
theorem spec_l12Form.loops (k : Nat) : LoopsOk spec_l12Form.E k spec_l12Form.hd (spec_l12Form.lps k) (loopsOf (Go.Proofs.Tryz.f120.body.getD .skip)) := trivial
theorem spec_l12Form.den (k : Nat) (x : Sig.In spec_l12Form.sg.ps) : denFn spec_l12Form.E k Go.Proofs.Tryz.f120 spec_l12Form.sg spec_l12Form.hd (runL k spec_l12Form.hd (spec_l12Form.lps k)) x = spec_l12Form.F k x := by kernel_rfl
theorem spec_l12Form.ok (k : Nat) : Contract Tryz.prog 120 spec_l12Form.sg (spec_l12Form.F k) := ok_of (E := spec_l12Form.E) (tysOk _ _) (eqsOk _) ⟨spec_l12Zero.ok k, trivial⟩ Tryz.func120 rfl (by kernel_rfl) (spec_l12Form.loops k) (spec_l12Form.den k)
def spec_l12Mail.sg : Sig := ⟨[.r kNode, .b kMail], [((.int .i64), .rd)]⟩
def spec_l12Mail.E : Env := ⟨tys, bys, [(54, ⟨spec_EntryFault.sg, spec_EntryFault.F⟩), (93, ⟨spec_l1In.sg, spec_l1In.F⟩), (95, ⟨spec_l10Epoch.sg, spec_l10Epoch.F⟩), (120, ⟨spec_l12Form.sg, spec_l12Form.F⟩)], eqs⟩
def spec_l12Mail.F (k : Nat) (x : ((Int × (Bool × (Int × (Int × ((List (Int × ((Int × (Int × ((List Int) × Unit))) × Unit))) × (Int × (Int × (Int × (Int × Unit))))))))) × ((Int × (Int × (Int × (Int × (Int × (Bool × ((Int × ((Int × (Int × ((List Int) × Unit))) × Unit)) × Unit))))))) × Unit))) : Option ((Int × Unit) × Unit) :=
  (spec_l1In.F k (x.2.1.1, (1 : Int), (2 : Int), ())).bind fun y0 =>
  bif (!y0.1.1) then
  (some (((1 : Int), ()), ()))
  else bif (x.2.1.2.1 != x.1.1) then
    (some (((1 : Int), ()), ()))
    else (spec_l10Epoch.F k (x.2.1.2.2.1, ())).bind fun y1 =>
      bif (!y1.1.1) then
      (some (((3 : Int), ()), ()))
      else (spec_l1In.F k (x.2.1.2.2.2.1, (0 : Int), (100 : Int), ())).bind fun y2 =>
        bif (!y2.1.1) then
        (some (((3 : Int), ()), ()))
        else (spec_l1In.F k (x.2.1.2.2.2.2.1, (0 : Int), (1000 : Int), ())).bind fun y3 =>
          bif (!y3.1.1) then
          (some (((3 : Int), ()), ()))
          else (spec_l12Form.F k x.2).bind fun y4 =>
            bif (!y4.1.1) then
            (some (((1 : Int), ()), ()))
            else bif x.2.1.2.2.2.2.2.1 then
              ((spec_EntryFault.F k x.2.1.2.2.2.2.2.2).bind fun y5 =>
                bif (y5.1.1 != (0 : Int)) then
                (some y5)
                else bif (decide ((x.2.1.2.2.2.2.2.2.1.1 > x.2.1.2.2.1))) then
                  (some (((1 : Int), ()), ()))
                  else bif (decide ((x.2.1.2.2.2.2.2.2.1.1 < x.2.1.2.2.2.2.1))) then
                    (some (((1 : Int), ()), ()))
                    else some (((0 : Int), ()), ()))
              else some (((0 : Int), ()), ())
def spec_l12Mail.hd : Hints := ⟨[], [], [4], [0, 1, 3, 5], [(1, [0, 1, 3, 7, 15, 31, 63, 31, 159, 415, 927, 2047, 4095])]⟩
def spec_l12Mail.lps (k : Nat) : List (Nat × Lp spec_l12Mail.sg.Out) := []
theorem spec_l12Mail.loops (k : Nat) : LoopsOk spec_l12Mail.E k spec_l12Mail.hd (spec_l12Mail.lps k) (loopsOf (Go.Proofs.Tryz.f94.body.getD .skip)) := trivial
theorem spec_l12Mail.den (k : Nat) (x : Sig.In spec_l12Mail.sg.ps) : denFn spec_l12Mail.E k Go.Proofs.Tryz.f94 spec_l12Mail.sg spec_l12Mail.hd (runL k spec_l12Mail.hd (spec_l12Mail.lps k)) x = spec_l12Mail.F k x := by kernel_rfl
theorem spec_l12Mail.ok (k : Nat) : Contract Tryz.prog 94 spec_l12Mail.sg (spec_l12Mail.F k) := ok_of (E := spec_l12Mail.E) (tysOk _ _) (eqsOk _) ⟨spec_EntryFault.ok k, spec_l1In.ok k, spec_l10Epoch.ok k, spec_l12Form.ok k, trivial⟩ Tryz.func94 rfl (by kernel_rfl) (spec_l12Mail.loops k) (spec_l12Mail.den k)
def spec_l14Mails.sg : Sig := ⟨[.r kPair], [((.int .i64), .rd)]⟩
def spec_l14Mails.E : Env := ⟨tys, bys, [(93, ⟨spec_l1In.sg, spec_l1In.F⟩), (94, ⟨spec_l12Mail.sg, spec_l12Mail.F⟩)], eqs⟩
def spec_l14Mails.l4 {ρ : Type} (k : Nat) (c0 : (Int × Unit) → Option ρ) (c1 : Unit → Option ρ) : Nat → (((Int × (Int × (Int × Unit))) × (Int × ((List ((Int × (Int × Unit)) × (Int × (Int × (Int × (Bool × (Int × (Int × Unit)))))))) × ((List ((Int × (Int × Unit)) × (Int × (Int × (Int × (Bool × (Int × (Int × Unit)))))))) × Unit)))) × ((List (Int × (Bool × (Int × (Int × ((List (Int × ((Int × (Int × ((List Int) × Unit))) × Unit))) × (Int × (Int × (Int × (Int × Unit)))))))))) × ((List (Int × ((List Int) × (Int × ((List Int) × Unit))))) × ((List (Int × (Int × (Int × (Int × (Int × (Bool × ((Int × ((Int × (Int × ((List Int) × Unit))) × Unit)) × Unit)))))))) × ((List (Int × ((Int × (Int × ((List Int) × Unit))) × Unit))) × Unit))))) → Int → Option ρ
  | 0 => fun _ _ => none
  | n + 1 => fun x0 x1 => 
    bif (decide ((x1 < (((List.length x0.2.2.2.1) : Nat) : Int)))) then
    (bif (Go.Dn.inB x1 (((List.length x0.2.2.2.1) : Nat) : Int)) then
      (Go.Dn.share (List.getD x0.2.2.2.1 (Int.toNat x1) ((0 : Int), ((0 : Int), ((0 : Int), ((0 : Int), ((0 : Int), (false, (((0 : Int), (((0 : Int), ((0 : Int), (([] : List Int), ()))), ())), ())))))))) fun s0 =>
        (spec_l1In.F k (s0.2.1, (0 : Int), (1 : Int), ())).bind fun y1 =>
        bif (!y1.1.1) then
        (c0 ((1 : Int), ()))
        else bif (Go.Dn.inB x1 (((List.length x0.2.2.2.1) : Nat) : Int)) then
          (Go.Dn.share (List.getD x0.2.2.2.1 (Int.toNat x1) ((0 : Int), ((0 : Int), ((0 : Int), ((0 : Int), ((0 : Int), (false, (((0 : Int), (((0 : Int), ((0 : Int), (([] : List Int), ()))), ())), ())))))))) fun s2 =>
            bif (Go.Dn.inB s2.2.1 (((List.length x0.2.1) : Nat) : Int)) then
            (Go.Dn.share (List.getD x0.2.1 (Int.toNat s2.2.1) ((0 : Int), (false, ((0 : Int), ((0 : Int), (([] : List (Int × ((Int × (Int × ((List Int) × Unit))) × Unit))), ((0 : Int), ((0 : Int), ((0 : Int), ((0 : Int), ())))))))))) fun s3 =>
              bif (Go.Dn.inB x1 (((List.length x0.2.2.2.1) : Nat) : Int)) then
              (Go.Dn.share (List.getD x0.2.2.2.1 (Int.toNat x1) ((0 : Int), ((0 : Int), ((0 : Int), ((0 : Int), ((0 : Int), (false, (((0 : Int), (((0 : Int), ((0 : Int), (([] : List Int), ()))), ())), ())))))))) fun s4 =>
                (spec_l12Mail.F k (s3, s4, ())).bind fun y5 =>
                bif (y5.1.1 != (0 : Int)) then
                (c0 (y5.1.1, ()))
                else spec_l14Mails.l4 k c0 c1 n x0 (IntKind.wrap .i64 (x1 + (1 : Int))))
              else none)
            else none)
          else none)
      else none)
    else c1 (())
def spec_l14Mails.F (k : Nat) (x : ((((Int × (Int × (Int × Unit))) × (Int × ((List ((Int × (Int × Unit)) × (Int × (Int × (Int × (Bool × (Int × (Int × Unit)))))))) × ((List ((Int × (Int × Unit)) × (Int × (Int × (Int × (Bool × (Int × (Int × Unit)))))))) × Unit)))) × ((List (Int × (Bool × (Int × (Int × ((List (Int × ((Int × (Int × ((List Int) × Unit))) × Unit))) × (Int × (Int × (Int × (Int × Unit)))))))))) × ((List (Int × ((List Int) × (Int × ((List Int) × Unit))))) × ((List (Int × (Int × (Int × (Int × (Int × (Bool × ((Int × ((Int × (Int × ((List Int) × Unit))) × Unit)) × Unit)))))))) × ((List (Int × ((Int × (Int × ((List Int) × Unit))) × Unit))) × Unit))))) × Unit)) : Option ((Int × Unit) × Unit) :=
  bif (decide (((((List.length x.1.2.2.2.1) : Nat) : Int) > (40 : Int)))) then
  (some (((2 : Int), ()), ()))
  else spec_l14Mails.l4 k (fun e6 =>
      some (e6, ())) (fun e7 =>
      some (((0 : Int), ()), ())) k x.1 (0 : Int)
def spec_l14Mails.hd : Hints := ⟨[(4, ⟨[0, 3], []⟩)], [(0, []), (1, [0, 3])], [2], [0, 3, 4], [(8, [0, 1, 3, 7, 0, 16, 48, 112, 0, 496, 1008, 2032, 4095, 0, 8192, 24576, 57344, 0, 253952, 516096, 1048575, 2097151])]⟩
def spec_l14Mails.lps (k : Nat) : List (Nat × Lp spec_l14Mails.sg.Out) := [(4, ⟨[.x kPair, .i], fun x => (fun x0 x1 => ⟨[(0, .v false [.fel kPair x0 0]), (3, .v false [.int .i64 x1])], [], []⟩) x.1 x.2.1, fun C n x => spec_l14Mails.l4 k (fun y => C .ret ((fun y0 => ⟨[(2, .v false [.int .i64 y0])], [], []⟩) y.1)) (fun _ => C (.exit 0) ⟨[], [], []⟩) n x.1 x.2.1⟩)]
theorem spec_l14Mails.loops (k : Nat) : LoopsOk spec_l14Mails.E k spec_l14Mails.hd (spec_l14Mails.lps k) (loopsOf (Go.Proofs.Tryz.f53.body.getD .skip)) := ⟨⟨fun _ _ => rfl, fun _ _ _ => by kernel_rfl, fun _ => ⟨rfl, rfl⟩⟩, trivial⟩
theorem spec_l14Mails.den (k : Nat) (x : Sig.In spec_l14Mails.sg.ps) : denFn spec_l14Mails.E k Go.Proofs.Tryz.f53 spec_l14Mails.sg spec_l14Mails.hd (runL k spec_l14Mails.hd (spec_l14Mails.lps k)) x = spec_l14Mails.F k x := by kernel_rfl
theorem spec_l14Mails.ok (k : Nat) : Contract Tryz.prog 53 spec_l14Mails.sg (spec_l14Mails.F k) := ok_of (E := spec_l14Mails.E) (tysOk _ _) (eqsOk _) ⟨spec_l1In.ok k, spec_l12Mail.ok k, trivial⟩ Tryz.func53 rfl (by kernel_rfl) (spec_l14Mails.loops k) (spec_l14Mails.den k)
def spec_l14Fault.sg : Sig := ⟨[.r kPair], [((.int .i64), .rd)]⟩
def spec_l14Fault.E : Env := ⟨tys, bys, [(50, ⟨spec_SettingsFault.sg, spec_SettingsFault.F⟩), (51, ⟨spec_l14Nodes.sg, spec_l14Nodes.F⟩), (52, ⟨spec_WireFault.sg, spec_WireFault.F⟩), (53, ⟨spec_l14Mails.sg, spec_l14Mails.F⟩), (54, ⟨spec_EntryFault.sg, spec_EntryFault.F⟩)], eqs⟩
def spec_l14Fault.l10 {ρ : Type} (k : Nat) (c0 : (Int × Unit) → Option ρ) (c1 : ((((Int × (Int × (Int × Unit))) × (Int × ((List ((Int × (Int × Unit)) × (Int × (Int × (Int × (Bool × (Int × (Int × Unit)))))))) × ((List ((Int × (Int × Unit)) × (Int × (Int × (Int × (Bool × (Int × (Int × Unit)))))))) × Unit)))) × ((List (Int × (Bool × (Int × (Int × ((List (Int × ((Int × (Int × ((List Int) × Unit))) × Unit))) × (Int × (Int × (Int × (Int × Unit)))))))))) × ((List (Int × ((List Int) × (Int × ((List Int) × Unit))))) × ((List (Int × (Int × (Int × (Int × (Int × (Bool × ((Int × ((Int × (Int × ((List Int) × Unit))) × Unit)) × Unit)))))))) × ((List (Int × ((Int × (Int × ((List Int) × Unit))) × Unit))) × Unit))))) × Unit) → Option ρ) : Nat → (((Int × (Int × (Int × Unit))) × (Int × ((List ((Int × (Int × Unit)) × (Int × (Int × (Int × (Bool × (Int × (Int × Unit)))))))) × ((List ((Int × (Int × Unit)) × (Int × (Int × (Int × (Bool × (Int × (Int × Unit)))))))) × Unit)))) × ((List (Int × (Bool × (Int × (Int × ((List (Int × ((Int × (Int × ((List Int) × Unit))) × Unit))) × (Int × (Int × (Int × (Int × Unit)))))))))) × ((List (Int × ((List Int) × (Int × ((List Int) × Unit))))) × ((List (Int × (Int × (Int × (Int × (Int × (Bool × ((Int × ((Int × (Int × ((List Int) × Unit))) × Unit)) × Unit)))))))) × ((List (Int × ((Int × (Int × ((List Int) × Unit))) × Unit))) × Unit))))) → Int → Option ρ
  | 0 => fun _ _ => none
  | n + 1 => fun x0 x1 => 
    bif (decide ((x1 < (((List.length x0.2.2.1) : Nat) : Int)))) then
    (bif (Go.Dn.inB x1 (((List.length x0.2.2.1) : Nat) : Int)) then
      (Go.Dn.share (List.getD x0.2.2.1 (Int.toNat x1) ((0 : Int), (([] : List Int), ((0 : Int), (([] : List Int), ()))))) fun s2 =>
        (spec_WireFault.F k (s2, ())).bind fun y3 =>
        bif (y3.1.1 != (0 : Int)) then
        (c0 (y3.1.1, ()))
        else spec_l14Fault.l10 k c0 c1 n x0 (IntKind.wrap .i64 (x1 + (1 : Int))))
      else none)
    else c1 (x0, ())
def spec_l14Fault.l21 {ρ : Type} (k : Nat) (c0 : (Int × Unit) → Option ρ) (c1 : Unit → Option ρ) : Nat → (((Int × (Int × (Int × Unit))) × (Int × ((List ((Int × (Int × Unit)) × (Int × (Int × (Int × (Bool × (Int × (Int × Unit)))))))) × ((List ((Int × (Int × Unit)) × (Int × (Int × (Int × (Bool × (Int × (Int × Unit)))))))) × Unit)))) × ((List (Int × (Bool × (Int × (Int × ((List (Int × ((Int × (Int × ((List Int) × Unit))) × Unit))) × (Int × (Int × (Int × (Int × Unit)))))))))) × ((List (Int × ((List Int) × (Int × ((List Int) × Unit))))) × ((List (Int × (Int × (Int × (Int × (Int × (Bool × ((Int × ((Int × (Int × ((List Int) × Unit))) × Unit)) × Unit)))))))) × ((List (Int × ((Int × (Int × ((List Int) × Unit))) × Unit))) × Unit))))) → Int → Option ρ
  | 0 => fun _ _ => none
  | n + 1 => fun x0 x1 => 
    bif (decide ((x1 < (((List.length x0.2.2.2.2.1) : Nat) : Int)))) then
    (bif (Go.Dn.inB x1 (((List.length x0.2.2.2.2.1) : Nat) : Int)) then
      (Go.Dn.share (List.getD x0.2.2.2.2.1 (Int.toNat x1) ((0 : Int), (((0 : Int), ((0 : Int), (([] : List Int), ()))), ()))) fun s7 =>
        (spec_EntryFault.F k (s7, ())).bind fun y8 =>
        bif (y8.1.1 != (0 : Int)) then
        (c0 (y8.1.1, ()))
        else spec_l14Fault.l21 k c0 c1 n x0 (IntKind.wrap .i64 (x1 + (1 : Int))))
      else none)
    else c1 (())
def spec_l14Fault.F (k : Nat) (x : ((((Int × (Int × (Int × Unit))) × (Int × ((List ((Int × (Int × Unit)) × (Int × (Int × (Int × (Bool × (Int × (Int × Unit)))))))) × ((List ((Int × (Int × Unit)) × (Int × (Int × (Int × (Bool × (Int × (Int × Unit)))))))) × Unit)))) × ((List (Int × (Bool × (Int × (Int × ((List (Int × ((Int × (Int × ((List Int) × Unit))) × Unit))) × (Int × (Int × (Int × (Int × Unit)))))))))) × ((List (Int × ((List Int) × (Int × ((List Int) × Unit))))) × ((List (Int × (Int × (Int × (Int × (Int × (Bool × ((Int × ((Int × (Int × ((List Int) × Unit))) × Unit)) × Unit)))))))) × ((List (Int × ((Int × (Int × ((List Int) × Unit))) × Unit))) × Unit))))) × Unit)) : Option ((Int × Unit) × Unit) :=
  (spec_SettingsFault.F k (x.1.1, ())).bind fun y0 =>
  bif (y0.1.1 != (0 : Int)) then
  (some y0)
  else bif ((((List.length x.1.2.1) : Nat) : Int) != (2 : Int)) then
    (some (((1 : Int), ()), ()))
    else bif ((((List.length x.1.2.2.1) : Nat) : Int) != (3 : Int)) then
      (some (((1 : Int), ()), ()))
      else (spec_l14Nodes.F k x).bind fun y1 =>
        bif (y1.1.1 != (0 : Int)) then
        (some y1)
        else spec_l14Fault.l10 k (fun e4 =>
            some (e4, ())) (fun e5 =>
            (spec_l14Mails.F k e5).bind fun y6 =>
            bif (y6.1.1 != (0 : Int)) then
            (some y6)
            else bif (decide (((((List.length e5.1.2.2.2.2.1) : Nat) : Int) > (100 : Int)))) then
              (some (((2 : Int), ()), ()))
              else spec_l14Fault.l21 k (fun e9 =>
                  some (e9, ())) (fun e10 =>
                  some (((0 : Int), ()), ())) k e5.1 (0 : Int)) k x.1 (0 : Int)
def spec_l14Fault.hd : Hints := ⟨[(10, ⟨[0, 5], []⟩), (21, ⟨[0, 8], []⟩)], [(0, [0]), (1, [0, 5]), (2, []), (3, [0, 8])], [2], [0, 3, 4, 5, 6, 7, 8, 9], []⟩
def spec_l14Fault.lps (k : Nat) : List (Nat × Lp spec_l14Fault.sg.Out) := [(10, ⟨[.x kPair, .i], fun x => (fun x0 x1 => ⟨[(0, .v false [.fel kPair x0 0]), (5, .v false [.int .i64 x1])], [], []⟩) x.1 x.2.1, fun C n x => spec_l14Fault.l10 k (fun y => C .ret ((fun y0 => ⟨[(2, .v false [.int .i64 y0])], [], []⟩) y.1)) (fun y => C (.exit 0) ((fun y0 => ⟨[(0, .v false [.fel kPair y0 0])], [], []⟩) y.1)) n x.1 x.2.1⟩),
  (21, ⟨[.x kPair, .i], fun x => (fun x0 x1 => ⟨[(0, .v false [.fel kPair x0 0]), (8, .v false [.int .i64 x1])], [], []⟩) x.1 x.2.1, fun C n x => spec_l14Fault.l21 k (fun y => C .ret ((fun y0 => ⟨[(2, .v false [.int .i64 y0])], [], []⟩) y.1)) (fun _ => C (.exit 2) ⟨[], [], []⟩) n x.1 x.2.1⟩)]
theorem spec_l14Fault.loops (k : Nat) : LoopsOk spec_l14Fault.E k spec_l14Fault.hd (spec_l14Fault.lps k) (loopsOf (Go.Proofs.Tryz.f23.body.getD .skip)) := ⟨⟨fun _ _ => rfl, fun _ _ _ => by kernel_rfl, fun _ => ⟨rfl, rfl⟩⟩, ⟨⟨fun _ _ => rfl, fun _ _ _ => by kernel_rfl, fun _ => ⟨rfl, rfl⟩⟩, trivial⟩⟩
theorem spec_l14Fault.den (k : Nat) (x : Sig.In spec_l14Fault.sg.ps) : denFn spec_l14Fault.E k Go.Proofs.Tryz.f23 spec_l14Fault.sg spec_l14Fault.hd (runL k spec_l14Fault.hd (spec_l14Fault.lps k)) x = spec_l14Fault.F k x := by kernel_rfl
theorem spec_l14Fault.ok (k : Nat) : Contract Tryz.prog 23 spec_l14Fault.sg (spec_l14Fault.F k) := ok_of (E := spec_l14Fault.E) (tysOk _ _) (eqsOk _) ⟨spec_SettingsFault.ok k, spec_l14Nodes.ok k, spec_WireFault.ok k, spec_l14Mails.ok k, spec_EntryFault.ok k, trivial⟩ Tryz.func23 rfl (by kernel_rfl) (spec_l14Fault.loops k) (spec_l14Fault.den k)
def laws_toConfig.sg : Sig := ⟨[.b kConfig], [(kConfig, .rd)]⟩
def laws_toConfig.E : Env := ⟨tys, bys, [], eqs⟩
def laws_toConfig.F (k : Nat) (x : ((Int × (Int × (Int × Unit))) × Unit)) : Option (((Int × (Int × (Int × Unit))) × Unit) × Unit) :=
  some (x, ())
def laws_toConfig.hd : Hints := ⟨[], [], [2], [0, 1, 2, 3], []⟩
def laws_toConfig.lps (k : Nat) : List (Nat × Lp laws_toConfig.sg.Out) := []
theorem laws_toConfig.loops (k : Nat) : LoopsOk laws_toConfig.E k laws_toConfig.hd (laws_toConfig.lps k) (loopsOf (Go.Proofs.Tryz.f55.body.getD .skip)) := trivial
theorem laws_toConfig.den (k : Nat) (x : Sig.In laws_toConfig.sg.ps) : denFn laws_toConfig.E k Go.Proofs.Tryz.f55 laws_toConfig.sg laws_toConfig.hd (runL k laws_toConfig.hd (laws_toConfig.lps k)) x = laws_toConfig.F k x := by kernel_rfl
theorem laws_toConfig.ok (k : Nat) : Contract Tryz.prog 55 laws_toConfig.sg (laws_toConfig.F k) := ok_of (E := laws_toConfig.E) (tysOk _ _) (eqsOk _) trivial Tryz.func55 rfl (by kernel_rfl) (laws_toConfig.loops k) (laws_toConfig.den k)
def laws_toPrefix.sg : Sig := ⟨[.b kPrefix], [(kPrefix, .rd)]⟩
def laws_toPrefix.E : Env := ⟨tys, bys, [], eqs⟩
def laws_toPrefix.F (k : Nat) (x : ((Int × (Int × Unit)) × Unit)) : Option (((Int × (Int × Unit)) × Unit) × Unit) :=
  some (x, ())
def laws_toPrefix.hd : Hints := ⟨[], [], [2], [0, 1, 2, 3], []⟩
def laws_toPrefix.lps (k : Nat) : List (Nat × Lp laws_toPrefix.sg.Out) := []
theorem laws_toPrefix.loops (k : Nat) : LoopsOk laws_toPrefix.E k laws_toPrefix.hd (laws_toPrefix.lps k) (loopsOf (Go.Proofs.Tryz.f121.body.getD .skip)) := trivial
theorem laws_toPrefix.den (k : Nat) (x : Sig.In laws_toPrefix.sg.ps) : denFn laws_toPrefix.E k Go.Proofs.Tryz.f121 laws_toPrefix.sg laws_toPrefix.hd (runL k laws_toPrefix.hd (laws_toPrefix.lps k)) x = laws_toPrefix.F k x := by kernel_rfl
theorem laws_toPrefix.ok (k : Nat) : Contract Tryz.prog 121 laws_toPrefix.sg (laws_toPrefix.F k) := ok_of (E := laws_toPrefix.E) (tysOk _ _) (eqsOk _) trivial Tryz.func121 rfl (by kernel_rfl) (laws_toPrefix.loops k) (laws_toPrefix.den k)
def laws_toRule.sg : Sig := ⟨[.b kRule], [(kRule, .rd)]⟩
def laws_toRule.E : Env := ⟨tys, bys, [(121, ⟨laws_toPrefix.sg, laws_toPrefix.F⟩)], eqs⟩
def laws_toRule.F (k : Nat) (x : (((Int × (Int × Unit)) × (Int × (Int × (Int × (Bool × (Int × (Int × Unit))))))) × Unit)) : Option ((((Int × (Int × Unit)) × (Int × (Int × (Int × (Bool × (Int × (Int × Unit))))))) × Unit) × Unit) :=
  (laws_toPrefix.F k (x.1.1, ())).bind fun y0 =>
  some (((y0.1.1, x.1.2), ()), ())
def laws_toRule.hd : Hints := ⟨[], [], [2], [0, 1, 2, 3], []⟩
def laws_toRule.lps (k : Nat) : List (Nat × Lp laws_toRule.sg.Out) := []
theorem laws_toRule.loops (k : Nat) : LoopsOk laws_toRule.E k laws_toRule.hd (laws_toRule.lps k) (loopsOf (Go.Proofs.Tryz.f97.body.getD .skip)) := trivial
theorem laws_toRule.den (k : Nat) (x : Sig.In laws_toRule.sg.ps) : denFn laws_toRule.E k Go.Proofs.Tryz.f97 laws_toRule.sg laws_toRule.hd (runL k laws_toRule.hd (laws_toRule.lps k)) x = laws_toRule.F k x := by kernel_rfl
theorem laws_toRule.ok (k : Nat) : Contract Tryz.prog 97 laws_toRule.sg (laws_toRule.F k) := ok_of (E := laws_toRule.E) (tysOk _ _) (eqsOk _) ⟨laws_toPrefix.ok k, trivial⟩ Tryz.func97 rfl (by kernel_rfl) (laws_toRule.loops k) (laws_toRule.den k)
def laws_toRuleS.sg : Sig := ⟨[.b (.sl kRule)], [((.sl kRule), .dp)]⟩
def laws_toRuleS.E : Env := ⟨tys, bys, [(97, ⟨laws_toRule.sg, laws_toRule.F⟩)], eqs⟩
def laws_toRuleS.l3 {ρ : Type} (k : Nat) (c0 : (List ((Int × (Int × Unit)) × (Int × (Int × (Int × (Bool × (Int × (Int × Unit))))))) × Unit) → Option ρ) : Nat → List ((Int × (Int × Unit)) × (Int × (Int × (Int × (Bool × (Int × (Int × Unit))))))) → Int → List ((Int × (Int × Unit)) × (Int × (Int × (Int × (Bool × (Int × (Int × Unit))))))) → Option ρ
  | 0 => fun _ _ _ => none
  | n + 1 => fun x0 x1 x2 => 
    bif (decide ((x1 < (((List.length x0) : Nat) : Int)))) then
    (bif (Go.Dn.inB x1 (((List.length x0) : Nat) : Int)) then
      (Go.Dn.share (List.getD x0 (Int.toNat x1) (((0 : Int), ((0 : Int), ())), ((0 : Int), ((0 : Int), ((0 : Int), (false, ((0 : Int), ((0 : Int), ())))))))) fun s0 =>
        (laws_toRule.F k (s0, ())).bind fun y1 =>
        bif (Go.Dn.inB x1 (((List.length x2) : Nat) : Int)) then
        (Go.Dn.share (List.set x2 (Int.toNat x1) (y1.1.1.1, y1.1.1.2.1, y1.1.1.2.2.1, y1.1.1.2.2.2.1, y1.1.1.2.2.2.2.1, y1.1.1.2.2.2.2.2.1, y1.1.1.2.2.2.2.2.2.1, (List.getD x2 (Int.toNat x1) (((0 : Int), ((0 : Int), ())), ((0 : Int), ((0 : Int), ((0 : Int), (false, ((0 : Int), ((0 : Int), ())))))))).2.2.2.2.2.2.2)) fun s2 =>
          laws_toRuleS.l3 k c0 n x0 (IntKind.wrap .i64 (x1 + (1 : Int))) s2)
        else none)
      else none)
    else c0 (x2, ())
def laws_toRuleS.F (k : Nat) (x : ((List ((Int × (Int × Unit)) × (Int × (Int × (Int × (Bool × (Int × (Int × Unit)))))))) × Unit)) : Option (((List ((Int × (Int × Unit)) × (Int × (Int × (Int × (Bool × (Int × (Int × Unit)))))))) × Unit) × Unit) :=
  bif (decide (((((List.length x.1) : Nat) : Int) ≤ (((List.length x.1) : Nat) : Int)))) then
  (bif (Go.Dn.roomy (Int.toNat (((List.length x.1) : Nat) : Int)) 64) then
    (laws_toRuleS.l3 k (fun e3 =>
        some (e3, ())) k x.1 (0 : Int) (List.replicate (Int.toNat (((List.length x.1) : Nat) : Int)) (((0 : Int), ((0 : Int), ())), ((0 : Int), ((0 : Int), ((0 : Int), (false, ((0 : Int), ((0 : Int), ())))))))))
    else none)
  else none
def laws_toRuleS.hd : Hints := ⟨[(3, ⟨[0, 3, 4], []⟩)], [(0, [3]), (1, [0, 3, 4])], [2], [0, 3, 4], []⟩
def laws_toRuleS.lps (k : Nat) : List (Nat × Lp laws_toRuleS.sg.Out) := [(3, ⟨[.l kRule, .i, .l kRule], fun x => (fun x0 x1 x2 => ⟨[(0, .v false [.fz kRule x0]), (3, .v false [.arr 0]), (4, .v false [.int .i64 x1])], [(0, .arr kRule true false x2)], []⟩) x.1 x.2.1 x.2.2.1, fun C n x => laws_toRuleS.l3 k (fun y => C (.exit 0) ((fun y0 => ⟨[(3, .v false [.arr 0])], [(0, .arr kRule true false y0)], []⟩) y.1)) n x.1 x.2.1 x.2.2.1⟩)]
theorem laws_toRuleS.loops (k : Nat) : LoopsOk laws_toRuleS.E k laws_toRuleS.hd (laws_toRuleS.lps k) (loopsOf (Go.Proofs.Tryz.f56.body.getD .skip)) := ⟨⟨fun _ _ => rfl, fun _ _ _ => by kernel_rfl, fun _ => ⟨rfl, rfl⟩⟩, trivial⟩
theorem laws_toRuleS.den (k : Nat) (x : Sig.In laws_toRuleS.sg.ps) : denFn laws_toRuleS.E k Go.Proofs.Tryz.f56 laws_toRuleS.sg laws_toRuleS.hd (runL k laws_toRuleS.hd (laws_toRuleS.lps k)) x = laws_toRuleS.F k x := by kernel_rfl
theorem laws_toRuleS.ok (k : Nat) : Contract Tryz.prog 56 laws_toRuleS.sg (laws_toRuleS.F k) := ok_of (E := laws_toRuleS.E) (tysOk _ _) (eqsOk _) ⟨laws_toRule.ok k, trivial⟩ Tryz.func56 rfl (by kernel_rfl) (laws_toRuleS.loops k) (laws_toRuleS.den k)
def laws_toSettings.sg : Sig := ⟨[.b kSettings], [(kSettings, .dp)]⟩
def laws_toSettings.E : Env := ⟨tys, bys, [(55, ⟨laws_toConfig.sg, laws_toConfig.F⟩), (56, ⟨laws_toRuleS.sg, laws_toRuleS.F⟩)], eqs⟩
def laws_toSettings.F (k : Nat) (x : (((Int × (Int × (Int × Unit))) × (Int × ((List ((Int × (Int × Unit)) × (Int × (Int × (Int × (Bool × (Int × (Int × Unit)))))))) × ((List ((Int × (Int × Unit)) × (Int × (Int × (Int × (Bool × (Int × (Int × Unit)))))))) × Unit)))) × Unit)) : Option ((((Int × (Int × (Int × Unit))) × (Int × ((List ((Int × (Int × Unit)) × (Int × (Int × (Int × (Bool × (Int × (Int × Unit)))))))) × ((List ((Int × (Int × Unit)) × (Int × (Int × (Int × (Bool × (Int × (Int × Unit)))))))) × Unit)))) × Unit) × Unit) :=
  (laws_toConfig.F k (x.1.1, ())).bind fun y0 =>
  (laws_toRuleS.F k (x.1.2.2.1, ())).bind fun y1 =>
  (laws_toRuleS.F k x.1.2.2.2).bind fun y2 =>
  some (((y0.1.1, x.1.2.1, y1.1.1, y2.1), ()), ())
def laws_toSettings.hd : Hints := ⟨[], [], [2], [0, 1, 2, 3], []⟩
def laws_toSettings.lps (k : Nat) : List (Nat × Lp laws_toSettings.sg.Out) := []
theorem laws_toSettings.loops (k : Nat) : LoopsOk laws_toSettings.E k laws_toSettings.hd (laws_toSettings.lps k) (loopsOf (Go.Proofs.Tryz.f25.body.getD .skip)) := trivial
theorem laws_toSettings.den (k : Nat) (x : Sig.In laws_toSettings.sg.ps) : denFn laws_toSettings.E k Go.Proofs.Tryz.f25 laws_toSettings.sg laws_toSettings.hd (runL k laws_toSettings.hd (laws_toSettings.lps k)) x = laws_toSettings.F k x := by kernel_rfl
theorem laws_toSettings.ok (k : Nat) : Contract Tryz.prog 25 laws_toSettings.sg (laws_toSettings.F k) := ok_of (E := laws_toSettings.E) (tysOk _ _) (eqsOk _) ⟨laws_toConfig.ok k, laws_toRuleS.ok k, trivial⟩ Tryz.func25 rfl (by kernel_rfl) (laws_toSettings.loops k) (laws_toSettings.den k)
def laws_toByteS.sg : Sig := ⟨[.b (.sl (.int .u8))], [((.sl (.int .u8)), .dp)]⟩
def laws_toByteS.E : Env := ⟨tys, bys, [], eqs⟩
def laws_toByteS.l3 {ρ : Type} (k : Nat) (c0 : (List Int × Unit) → Option ρ) : Nat → List Int → Int → List Int → Option ρ
  | 0 => fun _ _ _ => none
  | n + 1 => fun x0 x1 x2 => 
    bif (decide ((x1 < (((List.length x0) : Nat) : Int)))) then
    (bif (Go.Dn.inB x1 (((List.length x0) : Nat) : Int)) then
      (Go.Dn.share (List.getD x0 (Int.toNat x1) (0 : Int)) fun s0 =>
        bif (Go.Dn.inB x1 (((List.length x2) : Nat) : Int)) then
        (Go.Dn.share (List.set x2 (Int.toNat x1) s0) fun s1 =>
          laws_toByteS.l3 k c0 n x0 (IntKind.wrap .i64 (x1 + (1 : Int))) s1)
        else none)
      else none)
    else c0 (x2, ())
def laws_toByteS.F (k : Nat) (x : ((List Int) × Unit)) : Option (((List Int) × Unit) × Unit) :=
  bif (decide (((((List.length x.1) : Nat) : Int) ≤ (((List.length x.1) : Nat) : Int)))) then
  (bif (Go.Dn.roomy (Int.toNat (((List.length x.1) : Nat) : Int)) 1) then
    (laws_toByteS.l3 k (fun e2 =>
        some (e2, ())) k x.1 (0 : Int) (List.replicate (Int.toNat (((List.length x.1) : Nat) : Int)) (0 : Int)))
    else none)
  else none
def laws_toByteS.hd : Hints := ⟨[(3, ⟨[0, 3, 4], []⟩)], [(0, [3]), (1, [0, 3, 4])], [2], [0, 3, 4], []⟩
def laws_toByteS.lps (k : Nat) : List (Nat × Lp laws_toByteS.sg.Out) := [(3, ⟨[.l (.int .u8), .i, .l (.int .u8)], fun x => (fun x0 x1 x2 => ⟨[(0, .v false [.fz (.int .u8) x0]), (3, .v false [.arr 0]), (4, .v false [.int .i64 x1])], [(0, .arr (.int .u8) true false x2)], []⟩) x.1 x.2.1 x.2.2.1, fun C n x => laws_toByteS.l3 k (fun y => C (.exit 0) ((fun y0 => ⟨[(3, .v false [.arr 0])], [(0, .arr (.int .u8) true false y0)], []⟩) y.1)) n x.1 x.2.1 x.2.2.1⟩)]
theorem laws_toByteS.loops (k : Nat) : LoopsOk laws_toByteS.E k laws_toByteS.hd (laws_toByteS.lps k) (loopsOf (Go.Proofs.Tryz.f98.body.getD .skip)) := ⟨⟨fun _ _ => rfl, fun _ _ _ => by kernel_rfl, fun _ => ⟨rfl, rfl⟩⟩, trivial⟩
theorem laws_toByteS.den (k : Nat) (x : Sig.In laws_toByteS.sg.ps) : denFn laws_toByteS.E k Go.Proofs.Tryz.f98 laws_toByteS.sg laws_toByteS.hd (runL k laws_toByteS.hd (laws_toByteS.lps k)) x = laws_toByteS.F k x := by kernel_rfl
theorem laws_toByteS.ok (k : Nat) : Contract Tryz.prog 98 laws_toByteS.sg (laws_toByteS.F k) := ok_of (E := laws_toByteS.E) (tysOk _ _) (eqsOk _) trivial Tryz.func98 rfl (by kernel_rfl) (laws_toByteS.loops k) (laws_toByteS.den k)
def laws_toEvent.sg : Sig := ⟨[.b kEvent], [(kEvent, .dp)]⟩
def laws_toEvent.E : Env := ⟨tys, bys, [(98, ⟨laws_toByteS.sg, laws_toByteS.F⟩)], eqs⟩
def laws_toEvent.F (k : Nat) (x : ((Int × (Int × ((List Int) × Unit))) × Unit)) : Option (((Int × (Int × ((List Int) × Unit))) × Unit) × Unit) :=
  (laws_toByteS.F k x.1.2.2).bind fun y0 =>
  some (((x.1.1, x.1.2.1, y0.1), ()), ())
def laws_toEvent.hd : Hints := ⟨[], [], [2], [0, 1, 2, 3], []⟩
def laws_toEvent.lps (k : Nat) : List (Nat × Lp laws_toEvent.sg.Out) := []
theorem laws_toEvent.loops (k : Nat) : LoopsOk laws_toEvent.E k laws_toEvent.hd (laws_toEvent.lps k) (loopsOf (Go.Proofs.Tryz.f99.body.getD .skip)) := trivial
theorem laws_toEvent.den (k : Nat) (x : Sig.In laws_toEvent.sg.ps) : denFn laws_toEvent.E k Go.Proofs.Tryz.f99 laws_toEvent.sg laws_toEvent.hd (runL k laws_toEvent.hd (laws_toEvent.lps k)) x = laws_toEvent.F k x := by kernel_rfl
theorem laws_toEvent.ok (k : Nat) : Contract Tryz.prog 99 laws_toEvent.sg (laws_toEvent.F k) := ok_of (E := laws_toEvent.E) (tysOk _ _) (eqsOk _) ⟨laws_toByteS.ok k, trivial⟩ Tryz.func99 rfl (by kernel_rfl) (laws_toEvent.loops k) (laws_toEvent.den k)
def laws_toEntry.sg : Sig := ⟨[.b kEntry], [(kEntry, .dp)]⟩
def laws_toEntry.E : Env := ⟨tys, bys, [(99, ⟨laws_toEvent.sg, laws_toEvent.F⟩)], eqs⟩
def laws_toEntry.F (k : Nat) (x : ((Int × ((Int × (Int × ((List Int) × Unit))) × Unit)) × Unit)) : Option (((Int × ((Int × (Int × ((List Int) × Unit))) × Unit)) × Unit) × Unit) :=
  (laws_toEvent.F k x.1.2).bind fun y0 =>
  some (((x.1.1, y0.1), ()), ())
def laws_toEntry.hd : Hints := ⟨[], [], [2], [0, 1, 2, 3], []⟩
def laws_toEntry.lps (k : Nat) : List (Nat × Lp laws_toEntry.sg.Out) := []
theorem laws_toEntry.loops (k : Nat) : LoopsOk laws_toEntry.E k laws_toEntry.hd (laws_toEntry.lps k) (loopsOf (Go.Proofs.Tryz.f60.body.getD .skip)) := trivial
theorem laws_toEntry.den (k : Nat) (x : Sig.In laws_toEntry.sg.ps) : denFn laws_toEntry.E k Go.Proofs.Tryz.f60 laws_toEntry.sg laws_toEntry.hd (runL k laws_toEntry.hd (laws_toEntry.lps k)) x = laws_toEntry.F k x := by kernel_rfl
theorem laws_toEntry.ok (k : Nat) : Contract Tryz.prog 60 laws_toEntry.sg (laws_toEntry.F k) := ok_of (E := laws_toEntry.E) (tysOk _ _) (eqsOk _) ⟨laws_toEvent.ok k, trivial⟩ Tryz.func60 rfl (by kernel_rfl) (laws_toEntry.loops k) (laws_toEntry.den k)
def laws_toEntryS.sg : Sig := ⟨[.b (.sl kEntry)], [((.sl kEntry), .dp)]⟩
def laws_toEntryS.E : Env := ⟨tys, bys, [(60, ⟨laws_toEntry.sg, laws_toEntry.F⟩)], eqs⟩
def laws_toEntryS.l3 {ρ : Type} (k : Nat) (c0 : (List (Int × ((Int × (Int × ((List Int) × Unit))) × Unit)) × Unit) → Option ρ) : Nat → List (Int × ((Int × (Int × ((List Int) × Unit))) × Unit)) → Int → List (Int × ((Int × (Int × ((List Int) × Unit))) × Unit)) → Option ρ
  | 0 => fun _ _ _ => none
  | n + 1 => fun x0 x1 x2 => 
    bif (decide ((x1 < (((List.length x0) : Nat) : Int)))) then
    (bif (Go.Dn.inB x1 (((List.length x0) : Nat) : Int)) then
      (Go.Dn.share (List.getD x0 (Int.toNat x1) ((0 : Int), (((0 : Int), ((0 : Int), (([] : List Int), ()))), ()))) fun s0 =>
        (laws_toEntry.F k (s0, ())).bind fun y1 =>
        bif (Go.Dn.inB x1 (((List.length x2) : Nat) : Int)) then
        (Go.Dn.share (List.set x2 (Int.toNat x1) (y1.1.1.1, (y1.1.1.2.1.1, y1.1.1.2.1.2.1, y1.1.1.2.1.2.2.1, (List.getD x2 (Int.toNat x1) ((0 : Int), (((0 : Int), ((0 : Int), (([] : List Int), ()))), ()))).2.1.2.2.2), (List.getD x2 (Int.toNat x1) ((0 : Int), (((0 : Int), ((0 : Int), (([] : List Int), ()))), ()))).2.2)) fun s2 =>
          laws_toEntryS.l3 k c0 n x0 (IntKind.wrap .i64 (x1 + (1 : Int))) s2)
        else none)
      else none)
    else c0 (x2, ())
def laws_toEntryS.F (k : Nat) (x : ((List (Int × ((Int × (Int × ((List Int) × Unit))) × Unit))) × Unit)) : Option (((List (Int × ((Int × (Int × ((List Int) × Unit))) × Unit))) × Unit) × Unit) :=
  bif (decide (((((List.length x.1) : Nat) : Int) ≤ (((List.length x.1) : Nat) : Int)))) then
  (bif (Go.Dn.roomy (Int.toNat (((List.length x.1) : Nat) : Int)) 48) then
    (laws_toEntryS.l3 k (fun e3 =>
        some (e3, ())) k x.1 (0 : Int) (List.replicate (Int.toNat (((List.length x.1) : Nat) : Int)) ((0 : Int), (((0 : Int), ((0 : Int), (([] : List Int), ()))), ()))))
    else none)
  else none
def laws_toEntryS.hd : Hints := ⟨[(3, ⟨[0, 3, 4], []⟩)], [(0, [3]), (1, [0, 3, 4])], [2], [0, 3, 4], []⟩
def laws_toEntryS.lps (k : Nat) : List (Nat × Lp laws_toEntryS.sg.Out) := [(3, ⟨[.l kEntry, .i, .l kEntry], fun x => (fun x0 x1 x2 => ⟨[(0, .v false [.fz kEntry x0]), (3, .v false [.arr 0]), (4, .v false [.int .i64 x1])], [(0, .arr kEntry true false x2)], []⟩) x.1 x.2.1 x.2.2.1, fun C n x => laws_toEntryS.l3 k (fun y => C (.exit 0) ((fun y0 => ⟨[(3, .v false [.arr 0])], [(0, .arr kEntry true false y0)], []⟩) y.1)) n x.1 x.2.1 x.2.2.1⟩)]
theorem laws_toEntryS.loops (k : Nat) : LoopsOk laws_toEntryS.E k laws_toEntryS.hd (laws_toEntryS.lps k) (loopsOf (Go.Proofs.Tryz.f29.body.getD .skip)) := ⟨⟨fun _ _ => rfl, fun _ _ _ => by kernel_rfl, fun _ => ⟨rfl, rfl⟩⟩, trivial⟩
theorem laws_toEntryS.den (k : Nat) (x : Sig.In laws_toEntryS.sg.ps) : denFn laws_toEntryS.E k Go.Proofs.Tryz.f29 laws_toEntryS.sg laws_toEntryS.hd (runL k laws_toEntryS.hd (laws_toEntryS.lps k)) x = laws_toEntryS.F k x := by kernel_rfl
theorem laws_toEntryS.ok (k : Nat) : Contract Tryz.prog 29 laws_toEntryS.sg (laws_toEntryS.F k) := ok_of (E := laws_toEntryS.E) (tysOk _ _) (eqsOk _) ⟨laws_toEntry.ok k, trivial⟩ Tryz.func29 rfl (by kernel_rfl) (laws_toEntryS.loops k) (laws_toEntryS.den k)
def laws_toNode.sg : Sig := ⟨[.b kNode], [(kNode, .dp)]⟩
def laws_toNode.E : Env := ⟨tys, bys, [(29, ⟨laws_toEntryS.sg, laws_toEntryS.F⟩)], eqs⟩
def laws_toNode.F (k : Nat) (x : ((Int × (Bool × (Int × (Int × ((List (Int × ((Int × (Int × ((List Int) × Unit))) × Unit))) × (Int × (Int × (Int × (Int × Unit))))))))) × Unit)) : Option (((Int × (Bool × (Int × (Int × ((List (Int × ((Int × (Int × ((List Int) × Unit))) × Unit))) × (Int × (Int × (Int × (Int × Unit))))))))) × Unit) × Unit) :=
  (laws_toEntryS.F k (x.1.2.2.2.2.1, ())).bind fun y0 =>
  some (((x.1.1, x.1.2.1, x.1.2.2.1, x.1.2.2.2.1, y0.1.1, x.1.2.2.2.2.2), ()), ())
def laws_toNode.hd : Hints := ⟨[], [], [2], [0, 1, 2, 3], []⟩
def laws_toNode.lps (k : Nat) : List (Nat × Lp laws_toNode.sg.Out) := []
theorem laws_toNode.loops (k : Nat) : LoopsOk laws_toNode.E k laws_toNode.hd (laws_toNode.lps k) (loopsOf (Go.Proofs.Tryz.f57.body.getD .skip)) := trivial
theorem laws_toNode.den (k : Nat) (x : Sig.In laws_toNode.sg.ps) : denFn laws_toNode.E k Go.Proofs.Tryz.f57 laws_toNode.sg laws_toNode.hd (runL k laws_toNode.hd (laws_toNode.lps k)) x = laws_toNode.F k x := by kernel_rfl
theorem laws_toNode.ok (k : Nat) : Contract Tryz.prog 57 laws_toNode.sg (laws_toNode.F k) := ok_of (E := laws_toNode.E) (tysOk _ _) (eqsOk _) ⟨laws_toEntryS.ok k, trivial⟩ Tryz.func57 rfl (by kernel_rfl) (laws_toNode.loops k) (laws_toNode.den k)
def laws_toNodeS.sg : Sig := ⟨[.b (.sl kNode)], [((.sl kNode), .dp)]⟩
def laws_toNodeS.E : Env := ⟨tys, bys, [(57, ⟨laws_toNode.sg, laws_toNode.F⟩)], eqs⟩
def laws_toNodeS.l3 {ρ : Type} (k : Nat) (c0 : (List (Int × (Bool × (Int × (Int × ((List (Int × ((Int × (Int × ((List Int) × Unit))) × Unit))) × (Int × (Int × (Int × (Int × Unit))))))))) × Unit) → Option ρ) : Nat → List (Int × (Bool × (Int × (Int × ((List (Int × ((Int × (Int × ((List Int) × Unit))) × Unit))) × (Int × (Int × (Int × (Int × Unit))))))))) → Int → List (Int × (Bool × (Int × (Int × ((List (Int × ((Int × (Int × ((List Int) × Unit))) × Unit))) × (Int × (Int × (Int × (Int × Unit))))))))) → Option ρ
  | 0 => fun _ _ _ => none
  | n + 1 => fun x0 x1 x2 => 
    bif (decide ((x1 < (((List.length x0) : Nat) : Int)))) then
    (bif (Go.Dn.inB x1 (((List.length x0) : Nat) : Int)) then
      (Go.Dn.share (List.getD x0 (Int.toNat x1) ((0 : Int), (false, ((0 : Int), ((0 : Int), (([] : List (Int × ((Int × (Int × ((List Int) × Unit))) × Unit))), ((0 : Int), ((0 : Int), ((0 : Int), ((0 : Int), ())))))))))) fun s0 =>
        (laws_toNode.F k (s0, ())).bind fun y1 =>
        bif (Go.Dn.inB x1 (((List.length x2) : Nat) : Int)) then
        (Go.Dn.share (List.set x2 (Int.toNat x1) (y1.1.1.1, y1.1.1.2.1, y1.1.1.2.2.1, y1.1.1.2.2.2.1, y1.1.1.2.2.2.2.1, y1.1.1.2.2.2.2.2.1, y1.1.1.2.2.2.2.2.2.1, y1.1.1.2.2.2.2.2.2.2.1, y1.1.1.2.2.2.2.2.2.2.2.1, (List.getD x2 (Int.toNat x1) ((0 : Int), (false, ((0 : Int), ((0 : Int), (([] : List (Int × ((Int × (Int × ((List Int) × Unit))) × Unit))), ((0 : Int), ((0 : Int), ((0 : Int), ((0 : Int), ())))))))))).2.2.2.2.2.2.2.2.2)) fun s2 =>
          laws_toNodeS.l3 k c0 n x0 (IntKind.wrap .i64 (x1 + (1 : Int))) s2)
        else none)
      else none)
    else c0 (x2, ())
def laws_toNodeS.F (k : Nat) (x : ((List (Int × (Bool × (Int × (Int × ((List (Int × ((Int × (Int × ((List Int) × Unit))) × Unit))) × (Int × (Int × (Int × (Int × Unit)))))))))) × Unit)) : Option (((List (Int × (Bool × (Int × (Int × ((List (Int × ((Int × (Int × ((List Int) × Unit))) × Unit))) × (Int × (Int × (Int × (Int × Unit)))))))))) × Unit) × Unit) :=
  bif (decide (((((List.length x.1) : Nat) : Int) ≤ (((List.length x.1) : Nat) : Int)))) then
  (bif (Go.Dn.roomy (Int.toNat (((List.length x.1) : Nat) : Int)) 88) then
    (laws_toNodeS.l3 k (fun e3 =>
        some (e3, ())) k x.1 (0 : Int) (List.replicate (Int.toNat (((List.length x.1) : Nat) : Int)) ((0 : Int), (false, ((0 : Int), ((0 : Int), (([] : List (Int × ((Int × (Int × ((List Int) × Unit))) × Unit))), ((0 : Int), ((0 : Int), ((0 : Int), ((0 : Int), ())))))))))))
    else none)
  else none
def laws_toNodeS.hd : Hints := ⟨[(3, ⟨[0, 3, 4], []⟩)], [(0, [3]), (1, [0, 3, 4])], [2], [0, 3, 4], []⟩
def laws_toNodeS.lps (k : Nat) : List (Nat × Lp laws_toNodeS.sg.Out) := [(3, ⟨[.l kNode, .i, .l kNode], fun x => (fun x0 x1 x2 => ⟨[(0, .v false [.fz kNode x0]), (3, .v false [.arr 0]), (4, .v false [.int .i64 x1])], [(0, .arr kNode true false x2)], []⟩) x.1 x.2.1 x.2.2.1, fun C n x => laws_toNodeS.l3 k (fun y => C (.exit 0) ((fun y0 => ⟨[(3, .v false [.arr 0])], [(0, .arr kNode true false y0)], []⟩) y.1)) n x.1 x.2.1 x.2.2.1⟩)]
theorem laws_toNodeS.loops (k : Nat) : LoopsOk laws_toNodeS.E k laws_toNodeS.hd (laws_toNodeS.lps k) (loopsOf (Go.Proofs.Tryz.f26.body.getD .skip)) := ⟨⟨fun _ _ => rfl, fun _ _ _ => by kernel_rfl, fun _ => ⟨rfl, rfl⟩⟩, trivial⟩
theorem laws_toNodeS.den (k : Nat) (x : Sig.In laws_toNodeS.sg.ps) : denFn laws_toNodeS.E k Go.Proofs.Tryz.f26 laws_toNodeS.sg laws_toNodeS.hd (runL k laws_toNodeS.hd (laws_toNodeS.lps k)) x = laws_toNodeS.F k x := by kernel_rfl
theorem laws_toNodeS.ok (k : Nat) : Contract Tryz.prog 26 laws_toNodeS.sg (laws_toNodeS.F k) := ok_of (E := laws_toNodeS.E) (tysOk _ _) (eqsOk _) ⟨laws_toNode.ok k, trivial⟩ Tryz.func26 rfl (by kernel_rfl) (laws_toNodeS.loops k) (laws_toNodeS.den k)
def laws_toWire.sg : Sig := ⟨[.b kWire], [(kWire, .dp)]⟩
def laws_toWire.E : Env := ⟨tys, bys, [(98, ⟨laws_toByteS.sg, laws_toByteS.F⟩)], eqs⟩
def laws_toWire.F (k : Nat) (x : ((Int × ((List Int) × (Int × ((List Int) × Unit)))) × Unit)) : Option (((Int × ((List Int) × (Int × ((List Int) × Unit)))) × Unit) × Unit) :=
  (laws_toByteS.F k (x.1.2.1, ())).bind fun y0 =>
  (laws_toByteS.F k x.1.2.2.2).bind fun y1 =>
  some (((x.1.1, y0.1.1, x.1.2.2.1, y1.1), ()), ())
def laws_toWire.hd : Hints := ⟨[], [], [2], [0, 1, 2, 3], []⟩
def laws_toWire.lps (k : Nat) : List (Nat × Lp laws_toWire.sg.Out) := []
theorem laws_toWire.loops (k : Nat) : LoopsOk laws_toWire.E k laws_toWire.hd (laws_toWire.lps k) (loopsOf (Go.Proofs.Tryz.f58.body.getD .skip)) := trivial
theorem laws_toWire.den (k : Nat) (x : Sig.In laws_toWire.sg.ps) : denFn laws_toWire.E k Go.Proofs.Tryz.f58 laws_toWire.sg laws_toWire.hd (runL k laws_toWire.hd (laws_toWire.lps k)) x = laws_toWire.F k x := by kernel_rfl
theorem laws_toWire.ok (k : Nat) : Contract Tryz.prog 58 laws_toWire.sg (laws_toWire.F k) := ok_of (E := laws_toWire.E) (tysOk _ _) (eqsOk _) ⟨laws_toByteS.ok k, trivial⟩ Tryz.func58 rfl (by kernel_rfl) (laws_toWire.loops k) (laws_toWire.den k)
def laws_toWireS.sg : Sig := ⟨[.b (.sl kWire)], [((.sl kWire), .dp)]⟩
def laws_toWireS.E : Env := ⟨tys, bys, [(58, ⟨laws_toWire.sg, laws_toWire.F⟩)], eqs⟩
def laws_toWireS.l3 {ρ : Type} (k : Nat) (c0 : (List (Int × ((List Int) × (Int × ((List Int) × Unit)))) × Unit) → Option ρ) : Nat → List (Int × ((List Int) × (Int × ((List Int) × Unit)))) → Int → List (Int × ((List Int) × (Int × ((List Int) × Unit)))) → Option ρ
  | 0 => fun _ _ _ => none
  | n + 1 => fun x0 x1 x2 => 
    bif (decide ((x1 < (((List.length x0) : Nat) : Int)))) then
    (bif (Go.Dn.inB x1 (((List.length x0) : Nat) : Int)) then
      (Go.Dn.share (List.getD x0 (Int.toNat x1) ((0 : Int), (([] : List Int), ((0 : Int), (([] : List Int), ()))))) fun s0 =>
        (laws_toWire.F k (s0, ())).bind fun y1 =>
        bif (Go.Dn.inB x1 (((List.length x2) : Nat) : Int)) then
        (Go.Dn.share (List.set x2 (Int.toNat x1) (y1.1.1.1, y1.1.1.2.1, y1.1.1.2.2.1, y1.1.1.2.2.2.1, (List.getD x2 (Int.toNat x1) ((0 : Int), (([] : List Int), ((0 : Int), (([] : List Int), ()))))).2.2.2.2)) fun s2 =>
          laws_toWireS.l3 k c0 n x0 (IntKind.wrap .i64 (x1 + (1 : Int))) s2)
        else none)
      else none)
    else c0 (x2, ())
def laws_toWireS.F (k : Nat) (x : ((List (Int × ((List Int) × (Int × ((List Int) × Unit))))) × Unit)) : Option (((List (Int × ((List Int) × (Int × ((List Int) × Unit))))) × Unit) × Unit) :=
  bif (decide (((((List.length x.1) : Nat) : Int) ≤ (((List.length x.1) : Nat) : Int)))) then
  (bif (Go.Dn.roomy (Int.toNat (((List.length x.1) : Nat) : Int)) 64) then
    (laws_toWireS.l3 k (fun e3 =>
        some (e3, ())) k x.1 (0 : Int) (List.replicate (Int.toNat (((List.length x.1) : Nat) : Int)) ((0 : Int), (([] : List Int), ((0 : Int), (([] : List Int), ()))))))
    else none)
  else none
def laws_toWireS.hd : Hints := ⟨[(3, ⟨[0, 3, 4], []⟩)], [(0, [3]), (1, [0, 3, 4])], [2], [0, 3, 4], []⟩
def laws_toWireS.lps (k : Nat) : List (Nat × Lp laws_toWireS.sg.Out) := [(3, ⟨[.l kWire, .i, .l kWire], fun x => (fun x0 x1 x2 => ⟨[(0, .v false [.fz kWire x0]), (3, .v false [.arr 0]), (4, .v false [.int .i64 x1])], [(0, .arr kWire true false x2)], []⟩) x.1 x.2.1 x.2.2.1, fun C n x => laws_toWireS.l3 k (fun y => C (.exit 0) ((fun y0 => ⟨[(3, .v false [.arr 0])], [(0, .arr kWire true false y0)], []⟩) y.1)) n x.1 x.2.1 x.2.2.1⟩)]
theorem laws_toWireS.loops (k : Nat) : LoopsOk laws_toWireS.E k laws_toWireS.hd (laws_toWireS.lps k) (loopsOf (Go.Proofs.Tryz.f27.body.getD .skip)) := ⟨⟨fun _ _ => rfl, fun _ _ _ => by kernel_rfl, fun _ => ⟨rfl, rfl⟩⟩, trivial⟩
theorem laws_toWireS.den (k : Nat) (x : Sig.In laws_toWireS.sg.ps) : denFn laws_toWireS.E k Go.Proofs.Tryz.f27 laws_toWireS.sg laws_toWireS.hd (runL k laws_toWireS.hd (laws_toWireS.lps k)) x = laws_toWireS.F k x := by kernel_rfl
theorem laws_toWireS.ok (k : Nat) : Contract Tryz.prog 27 laws_toWireS.sg (laws_toWireS.F k) := ok_of (E := laws_toWireS.E) (tysOk _ _) (eqsOk _) ⟨laws_toWire.ok k, trivial⟩ Tryz.func27 rfl (by kernel_rfl) (laws_toWireS.loops k) (laws_toWireS.den k)
def laws_toMail.sg : Sig := ⟨[.b kMail], [(kMail, .dp)]⟩
def laws_toMail.E : Env := ⟨tys, bys, [(60, ⟨laws_toEntry.sg, laws_toEntry.F⟩)], eqs⟩
def laws_toMail.F (k : Nat) (x : ((Int × (Int × (Int × (Int × (Int × (Bool × ((Int × ((Int × (Int × ((List Int) × Unit))) × Unit)) × Unit))))))) × Unit)) : Option (((Int × (Int × (Int × (Int × (Int × (Bool × ((Int × ((Int × (Int × ((List Int) × Unit))) × Unit)) × Unit))))))) × Unit) × Unit) :=
  (laws_toEntry.F k x.1.2.2.2.2.2.2).bind fun y0 =>
  some (((x.1.1, x.1.2.1, x.1.2.2.1, x.1.2.2.2.1, x.1.2.2.2.2.1, x.1.2.2.2.2.2.1, y0.1), ()), ())
def laws_toMail.hd : Hints := ⟨[], [], [2], [0, 1, 2, 3], []⟩
def laws_toMail.lps (k : Nat) : List (Nat × Lp laws_toMail.sg.Out) := []
theorem laws_toMail.loops (k : Nat) : LoopsOk laws_toMail.E k laws_toMail.hd (laws_toMail.lps k) (loopsOf (Go.Proofs.Tryz.f59.body.getD .skip)) := trivial
theorem laws_toMail.den (k : Nat) (x : Sig.In laws_toMail.sg.ps) : denFn laws_toMail.E k Go.Proofs.Tryz.f59 laws_toMail.sg laws_toMail.hd (runL k laws_toMail.hd (laws_toMail.lps k)) x = laws_toMail.F k x := by kernel_rfl
theorem laws_toMail.ok (k : Nat) : Contract Tryz.prog 59 laws_toMail.sg (laws_toMail.F k) := ok_of (E := laws_toMail.E) (tysOk _ _) (eqsOk _) ⟨laws_toEntry.ok k, trivial⟩ Tryz.func59 rfl (by kernel_rfl) (laws_toMail.loops k) (laws_toMail.den k)
def laws_toMailS.sg : Sig := ⟨[.b (.sl kMail)], [((.sl kMail), .dp)]⟩
def laws_toMailS.E : Env := ⟨tys, bys, [(59, ⟨laws_toMail.sg, laws_toMail.F⟩)], eqs⟩
def laws_toMailS.l3 {ρ : Type} (k : Nat) (c0 : (List (Int × (Int × (Int × (Int × (Int × (Bool × ((Int × ((Int × (Int × ((List Int) × Unit))) × Unit)) × Unit))))))) × Unit) → Option ρ) : Nat → List (Int × (Int × (Int × (Int × (Int × (Bool × ((Int × ((Int × (Int × ((List Int) × Unit))) × Unit)) × Unit))))))) → Int → List (Int × (Int × (Int × (Int × (Int × (Bool × ((Int × ((Int × (Int × ((List Int) × Unit))) × Unit)) × Unit))))))) → Option ρ
  | 0 => fun _ _ _ => none
  | n + 1 => fun x0 x1 x2 => 
    bif (decide ((x1 < (((List.length x0) : Nat) : Int)))) then
    (bif (Go.Dn.inB x1 (((List.length x0) : Nat) : Int)) then
      (Go.Dn.share (List.getD x0 (Int.toNat x1) ((0 : Int), ((0 : Int), ((0 : Int), ((0 : Int), ((0 : Int), (false, (((0 : Int), (((0 : Int), ((0 : Int), (([] : List Int), ()))), ())), ())))))))) fun s0 =>
        (laws_toMail.F k (s0, ())).bind fun y1 =>
        bif (Go.Dn.inB x1 (((List.length x2) : Nat) : Int)) then
        (Go.Dn.share (List.set x2 (Int.toNat x1) (y1.1.1.1, y1.1.1.2.1, y1.1.1.2.2.1, y1.1.1.2.2.2.1, y1.1.1.2.2.2.2.1, y1.1.1.2.2.2.2.2.1, (y1.1.1.2.2.2.2.2.2.1.1, (y1.1.1.2.2.2.2.2.2.1.2.1.1, y1.1.1.2.2.2.2.2.2.1.2.1.2.1, y1.1.1.2.2.2.2.2.2.1.2.1.2.2.1, (List.getD x2 (Int.toNat x1) ((0 : Int), ((0 : Int), ((0 : Int), ((0 : Int), ((0 : Int), (false, (((0 : Int), (((0 : Int), ((0 : Int), (([] : List Int), ()))), ())), ())))))))).2.2.2.2.2.2.1.2.1.2.2.2), (List.getD x2 (Int.toNat x1) ((0 : Int), ((0 : Int), ((0 : Int), ((0 : Int), ((0 : Int), (false, (((0 : Int), (((0 : Int), ((0 : Int), (([] : List Int), ()))), ())), ())))))))).2.2.2.2.2.2.1.2.2), (List.getD x2 (Int.toNat x1) ((0 : Int), ((0 : Int), ((0 : Int), ((0 : Int), ((0 : Int), (false, (((0 : Int), (((0 : Int), ((0 : Int), (([] : List Int), ()))), ())), ())))))))).2.2.2.2.2.2.2)) fun s2 =>
          laws_toMailS.l3 k c0 n x0 (IntKind.wrap .i64 (x1 + (1 : Int))) s2)
        else none)
      else none)
    else c0 (x2, ())
def laws_toMailS.F (k : Nat) (x : ((List (Int × (Int × (Int × (Int × (Int × (Bool × ((Int × ((Int × (Int × ((List Int) × Unit))) × Unit)) × Unit)))))))) × Unit)) : Option (((List (Int × (Int × (Int × (Int × (Int × (Bool × ((Int × ((Int × (Int × ((List Int) × Unit))) × Unit)) × Unit)))))))) × Unit) × Unit) :=
  bif (decide (((((List.length x.1) : Nat) : Int) ≤ (((List.length x.1) : Nat) : Int)))) then
  (bif (Go.Dn.roomy (Int.toNat (((List.length x.1) : Nat) : Int)) 96) then
    (laws_toMailS.l3 k (fun e3 =>
        some (e3, ())) k x.1 (0 : Int) (List.replicate (Int.toNat (((List.length x.1) : Nat) : Int)) ((0 : Int), ((0 : Int), ((0 : Int), ((0 : Int), ((0 : Int), (false, (((0 : Int), (((0 : Int), ((0 : Int), (([] : List Int), ()))), ())), ())))))))))
    else none)
  else none
def laws_toMailS.hd : Hints := ⟨[(3, ⟨[0, 3, 4], []⟩)], [(0, [3]), (1, [0, 3, 4])], [2], [0, 3, 4], []⟩
def laws_toMailS.lps (k : Nat) : List (Nat × Lp laws_toMailS.sg.Out) := [(3, ⟨[.l kMail, .i, .l kMail], fun x => (fun x0 x1 x2 => ⟨[(0, .v false [.fz kMail x0]), (3, .v false [.arr 0]), (4, .v false [.int .i64 x1])], [(0, .arr kMail true false x2)], []⟩) x.1 x.2.1 x.2.2.1, fun C n x => laws_toMailS.l3 k (fun y => C (.exit 0) ((fun y0 => ⟨[(3, .v false [.arr 0])], [(0, .arr kMail true false y0)], []⟩) y.1)) n x.1 x.2.1 x.2.2.1⟩)]
theorem laws_toMailS.loops (k : Nat) : LoopsOk laws_toMailS.E k laws_toMailS.hd (laws_toMailS.lps k) (loopsOf (Go.Proofs.Tryz.f28.body.getD .skip)) := ⟨⟨fun _ _ => rfl, fun _ _ _ => by kernel_rfl, fun _ => ⟨rfl, rfl⟩⟩, trivial⟩
theorem laws_toMailS.den (k : Nat) (x : Sig.In laws_toMailS.sg.ps) : denFn laws_toMailS.E k Go.Proofs.Tryz.f28 laws_toMailS.sg laws_toMailS.hd (runL k laws_toMailS.hd (laws_toMailS.lps k)) x = laws_toMailS.F k x := by kernel_rfl
theorem laws_toMailS.ok (k : Nat) : Contract Tryz.prog 28 laws_toMailS.sg (laws_toMailS.F k) := ok_of (E := laws_toMailS.E) (tysOk _ _) (eqsOk _) ⟨laws_toMail.ok k, trivial⟩ Tryz.func28 rfl (by kernel_rfl) (laws_toMailS.loops k) (laws_toMailS.den k)
def laws_toPair.sg : Sig := ⟨[.b kPair], [(kPair, .dp)]⟩
def laws_toPair.E : Env := ⟨tys, bys, [(25, ⟨laws_toSettings.sg, laws_toSettings.F⟩), (26, ⟨laws_toNodeS.sg, laws_toNodeS.F⟩), (27, ⟨laws_toWireS.sg, laws_toWireS.F⟩), (28, ⟨laws_toMailS.sg, laws_toMailS.F⟩), (29, ⟨laws_toEntryS.sg, laws_toEntryS.F⟩)], eqs⟩
def laws_toPair.F (k : Nat) (x : ((((Int × (Int × (Int × Unit))) × (Int × ((List ((Int × (Int × Unit)) × (Int × (Int × (Int × (Bool × (Int × (Int × Unit)))))))) × ((List ((Int × (Int × Unit)) × (Int × (Int × (Int × (Bool × (Int × (Int × Unit)))))))) × Unit)))) × ((List (Int × (Bool × (Int × (Int × ((List (Int × ((Int × (Int × ((List Int) × Unit))) × Unit))) × (Int × (Int × (Int × (Int × Unit)))))))))) × ((List (Int × ((List Int) × (Int × ((List Int) × Unit))))) × ((List (Int × (Int × (Int × (Int × (Int × (Bool × ((Int × ((Int × (Int × ((List Int) × Unit))) × Unit)) × Unit)))))))) × ((List (Int × ((Int × (Int × ((List Int) × Unit))) × Unit))) × Unit))))) × Unit)) : Option (((((Int × (Int × (Int × Unit))) × (Int × ((List ((Int × (Int × Unit)) × (Int × (Int × (Int × (Bool × (Int × (Int × Unit)))))))) × ((List ((Int × (Int × Unit)) × (Int × (Int × (Int × (Bool × (Int × (Int × Unit)))))))) × Unit)))) × ((List (Int × (Bool × (Int × (Int × ((List (Int × ((Int × (Int × ((List Int) × Unit))) × Unit))) × (Int × (Int × (Int × (Int × Unit)))))))))) × ((List (Int × ((List Int) × (Int × ((List Int) × Unit))))) × ((List (Int × (Int × (Int × (Int × (Int × (Bool × ((Int × ((Int × (Int × ((List Int) × Unit))) × Unit)) × Unit)))))))) × ((List (Int × ((Int × (Int × ((List Int) × Unit))) × Unit))) × Unit))))) × Unit) × Unit) :=
  (laws_toSettings.F k (x.1.1, ())).bind fun y0 =>
  (laws_toNodeS.F k (x.1.2.1, ())).bind fun y1 =>
  (laws_toWireS.F k (x.1.2.2.1, ())).bind fun y2 =>
  (laws_toMailS.F k (x.1.2.2.2.1, ())).bind fun y3 =>
  (laws_toEntryS.F k x.1.2.2.2.2).bind fun y4 =>
  some (((y0.1.1, y1.1.1, y2.1.1, y3.1.1, y4.1), ()), ())
def laws_toPair.hd : Hints := ⟨[], [], [2], [0, 1, 2, 3], []⟩
def laws_toPair.lps (k : Nat) : List (Nat × Lp laws_toPair.sg.Out) := []
theorem laws_toPair.loops (k : Nat) : LoopsOk laws_toPair.E k laws_toPair.hd (laws_toPair.lps k) (loopsOf (Go.Proofs.Tryz.f9.body.getD .skip)) := trivial
theorem laws_toPair.den (k : Nat) (x : Sig.In laws_toPair.sg.ps) : denFn laws_toPair.E k Go.Proofs.Tryz.f9 laws_toPair.sg laws_toPair.hd (runL k laws_toPair.hd (laws_toPair.lps k)) x = laws_toPair.F k x := by kernel_rfl
theorem laws_toPair.ok (k : Nat) : Contract Tryz.prog 9 laws_toPair.sg (laws_toPair.F k) := ok_of (E := laws_toPair.E) (tysOk _ _) (eqsOk _) ⟨laws_toSettings.ok k, laws_toNodeS.ok k, laws_toWireS.ok k, laws_toMailS.ok k, laws_toEntryS.ok k, trivial⟩ Tryz.func9 rfl (by kernel_rfl) (laws_toPair.loops k) (laws_toPair.den k)
def impl_in.sg : Sig := ⟨[.b (.int .i64), .b (.int .i64), .b (.int .i64)], [(.bool, .rd)]⟩
def impl_in.E : Env := ⟨tys, bys, [], eqs⟩
def impl_in.F (k : Nat) (x : (Int × (Int × (Int × Unit)))) : Option ((Bool × Unit) × Unit) :=
  bif (decide ((x.1 ≥ x.2.1))) then
  (some (((decide ((x.1 ≤ x.2.2.1))), ()), ()))
  else some ((false, ()), ())
def impl_in.hd : Hints := ⟨[], [], [6], [0, 1, 2], []⟩
def impl_in.lps (k : Nat) : List (Nat × Lp impl_in.sg.Out) := []
theorem impl_in.loops (k : Nat) : LoopsOk impl_in.E k impl_in.hd (impl_in.lps k) (loopsOf (Go.Proofs.Tryz.f103.body.getD .skip)) := trivial
theorem impl_in.den (k : Nat) (x : Sig.In impl_in.sg.ps) : denFn impl_in.E k Go.Proofs.Tryz.f103 impl_in.sg impl_in.hd (runL k impl_in.hd (impl_in.lps k)) x = impl_in.F k x := by kernel_rfl
theorem impl_in.ok (k : Nat) : Contract Tryz.prog 103 impl_in.sg (impl_in.F k) := ok_of (E := impl_in.E) (tysOk _ _) (eqsOk _) trivial Tryz.func103 rfl (by kernel_rfl) (impl_in.loops k) (impl_in.den k)
def impl_isSystem.sg : Sig := ⟨[.b (.int .i64)], [(.bool, .rd)]⟩
def impl_isSystem.E : Env := ⟨tys, bys, [(103, ⟨impl_in.sg, impl_in.F⟩)], eqs⟩
def impl_isSystem.F (k : Nat) (x : (Int × Unit)) : Option ((Bool × Unit) × Unit) :=
  (impl_in.F k (x.1, (1 : Int), (65535 : Int), ())).bind fun y0 =>
  some y0
def impl_isSystem.hd : Hints := ⟨[], [], [2], [0], []⟩
def impl_isSystem.lps (k : Nat) : List (Nat × Lp impl_isSystem.sg.Out) := []
theorem impl_isSystem.loops (k : Nat) : LoopsOk impl_isSystem.E k impl_isSystem.hd (impl_isSystem.lps k) (loopsOf (Go.Proofs.Tryz.f122.body.getD .skip)) := trivial
theorem impl_isSystem.den (k : Nat) (x : Sig.In impl_isSystem.sg.ps) : denFn impl_isSystem.E k Go.Proofs.Tryz.f122 impl_isSystem.sg impl_isSystem.hd (runL k impl_isSystem.hd (impl_isSystem.lps k)) x = impl_isSystem.F k x := by kernel_rfl
theorem impl_isSystem.ok (k : Nat) : Contract Tryz.prog 122 impl_isSystem.sg (impl_isSystem.F k) := ok_of (E := impl_isSystem.E) (tysOk _ _) (eqsOk _) ⟨impl_in.ok k, trivial⟩ Tryz.func122 rfl (by kernel_rfl) (impl_isSystem.loops k) (impl_isSystem.den k)
def impl_isHold.sg : Sig := ⟨[.b (.int .i64)], [(.bool, .rd)]⟩
def impl_isHold.E : Env := ⟨tys, bys, [(103, ⟨impl_in.sg, impl_in.F⟩)], eqs⟩
def impl_isHold.F (k : Nat) (x : (Int × Unit)) : Option ((Bool × Unit) × Unit) :=
  bif (x.1 == (0 : Int)) then
  (some ((true, ()), ()))
  else (impl_in.F k (x.1, (3 : Int), (200 : Int), ())).bind fun y0 =>
    some y0
def impl_isHold.hd : Hints := ⟨[], [], [2], [0], []⟩
def impl_isHold.lps (k : Nat) : List (Nat × Lp impl_isHold.sg.Out) := []
theorem impl_isHold.loops (k : Nat) : LoopsOk impl_isHold.E k impl_isHold.hd (impl_isHold.lps k) (loopsOf (Go.Proofs.Tryz.f123.body.getD .skip)) := trivial
theorem impl_isHold.den (k : Nat) (x : Sig.In impl_isHold.sg.ps) : denFn impl_isHold.E k Go.Proofs.Tryz.f123 impl_isHold.sg impl_isHold.hd (runL k impl_isHold.hd (impl_isHold.lps k)) x = impl_isHold.F k x := by kernel_rfl
theorem impl_isHold.ok (k : Nat) : Contract Tryz.prog 123 impl_isHold.sg (impl_isHold.F k) := ok_of (E := impl_isHold.E) (tysOk _ _) (eqsOk _) ⟨impl_in.ok k, trivial⟩ Tryz.func123 rfl (by kernel_rfl) (impl_isHold.loops k) (impl_isHold.den k)

end
end Go.Proofs.YtliaeahjdenlfaaGreat
set_option linter.unusedVariables false
set_option maxRecDepth 100000
namespace Go.Proofs.YtliaeahjdenlfaaGreat
open Go Go.Dn
noncomputable section

def impl_ConfigFault.sg : Sig := ⟨[.b kConfig], [((.int .i64), .rd)]⟩
def impl_ConfigFault.E : Env := ⟨tys, bys, [(122, ⟨impl_isSystem.sg, impl_isSystem.F⟩), (123, ⟨impl_isHold.sg, impl_isHold.F⟩)], eqs⟩
def impl_ConfigFault.F (k : Nat) (x : ((Int × (Int × (Int × Unit))) × Unit)) : Option ((Int × Unit) × Unit) :=
  (impl_isSystem.F k (x.1.1, ())).bind fun y0 =>
  bif (!y0.1.1) then
  (some (((3 : Int), ()), ()))
  else (impl_isSystem.F k (x.1.2.1, ())).bind fun y1 =>
    bif (!y1.1.1) then
    (some (((3 : Int), ()), ()))
    else (impl_isHold.F k x.1.2.2).bind fun y2 =>
      bif (!y2.1.1) then
      (some (((3 : Int), ()), ()))
      else some (((0 : Int), ()), ())
def impl_ConfigFault.hd : Hints := ⟨[], [], [2], [0, 1], []⟩
def impl_ConfigFault.lps (k : Nat) : List (Nat × Lp impl_ConfigFault.sg.Out) := []
theorem impl_ConfigFault.loops (k : Nat) : LoopsOk impl_ConfigFault.E k impl_ConfigFault.hd (impl_ConfigFault.lps k) (loopsOf (Go.Proofs.Tryz.f100.body.getD .skip)) := trivial
theorem impl_ConfigFault.den (k : Nat) (x : Sig.In impl_ConfigFault.sg.ps) : denFn impl_ConfigFault.E k Go.Proofs.Tryz.f100 impl_ConfigFault.sg impl_ConfigFault.hd (runL k impl_ConfigFault.hd (impl_ConfigFault.lps k)) x = impl_ConfigFault.F k x := by kernel_rfl
theorem impl_ConfigFault.ok (k : Nat) : Contract Tryz.prog 100 impl_ConfigFault.sg (impl_ConfigFault.F k) := ok_of (E := impl_ConfigFault.E) (tysOk _ _) (eqsOk _) ⟨impl_isSystem.ok k, impl_isHold.ok k, trivial⟩ Tryz.func100 rfl (by kernel_rfl) (impl_ConfigFault.loops k) (impl_ConfigFault.den k)
def impl_isAddr.sg : Sig := ⟨[.b (.int .i64)], [(.bool, .rd)]⟩
def impl_isAddr.E : Env := ⟨tys, bys, [(103, ⟨impl_in.sg, impl_in.F⟩)], eqs⟩
def impl_isAddr.F (k : Nat) (x : (Int × Unit)) : Option ((Bool × Unit) × Unit) :=
  (impl_in.F k (x.1, (0 : Int), (65535 : Int), ())).bind fun y0 =>
  some y0
def impl_isAddr.hd : Hints := ⟨[], [], [2], [0], []⟩
def impl_isAddr.lps (k : Nat) : List (Nat × Lp impl_isAddr.sg.Out) := []
theorem impl_isAddr.loops (k : Nat) : LoopsOk impl_isAddr.E k impl_isAddr.hd (impl_isAddr.lps k) (loopsOf (Go.Proofs.Tryz.f101.body.getD .skip)) := trivial
theorem impl_isAddr.den (k : Nat) (x : Sig.In impl_isAddr.sg.ps) : denFn impl_isAddr.E k Go.Proofs.Tryz.f101 impl_isAddr.sg impl_isAddr.hd (runL k impl_isAddr.hd (impl_isAddr.lps k)) x = impl_isAddr.F k x := by kernel_rfl
theorem impl_isAddr.ok (k : Nat) : Contract Tryz.prog 101 impl_isAddr.sg (impl_isAddr.F k) := ok_of (E := impl_isAddr.E) (tysOk _ _) (eqsOk _) ⟨impl_in.ok k, trivial⟩ Tryz.func101 rfl (by kernel_rfl) (impl_isAddr.loops k) (impl_isAddr.den k)
def impl_PrefixFault.sg : Sig := ⟨[.b kPrefix], [((.int .i64), .rd)]⟩
def impl_PrefixFault.E : Env := ⟨tys, bys, [(101, ⟨impl_isAddr.sg, impl_isAddr.F⟩), (103, ⟨impl_in.sg, impl_in.F⟩)], eqs⟩
def impl_PrefixFault.F (k : Nat) (x : ((Int × (Int × Unit)) × Unit)) : Option ((Int × Unit) × Unit) :=
  (impl_isAddr.F k (x.1.1, ())).bind fun y0 =>
  bif (!y0.1.1) then
  (some (((3 : Int), ()), ()))
  else (impl_in.F k (x.1.2.1, (0 : Int), (16 : Int), ())).bind fun y1 =>
    bif (!y1.1.1) then
    (some (((3 : Int), ()), ()))
    else bif (decide (((IntKind.wrap .i64 ((16 : Int) - x.1.2.1)) < (0 : Int)))) then
      (none)
      else bif ((Go.Dn.andV .i64 x.1.1 (IntKind.wrap .i64 ((Go.Dn.shlV .i64 (1 : Int) (IntKind.wrap .i64 ((16 : Int) - x.1.2.1))) - (1 : Int)))) != (0 : Int)) then
        (some (((1 : Int), ()), ()))
        else some (((0 : Int), ()), ())
def impl_PrefixFault.hd : Hints := ⟨[], [(0, [])], [2], [0, 1], [(3, [0, 1, 0, 4, 12, 28, 60, 127, 255, 511])]⟩
def impl_PrefixFault.lps (k : Nat) : List (Nat × Lp impl_PrefixFault.sg.Out) := []
theorem impl_PrefixFault.loops (k : Nat) : LoopsOk impl_PrefixFault.E k impl_PrefixFault.hd (impl_PrefixFault.lps k) (loopsOf (Go.Proofs.Tryz.f129.body.getD .skip)) := trivial
theorem impl_PrefixFault.den (k : Nat) (x : Sig.In impl_PrefixFault.sg.ps) : denFn impl_PrefixFault.E k Go.Proofs.Tryz.f129 impl_PrefixFault.sg impl_PrefixFault.hd (runL k impl_PrefixFault.hd (impl_PrefixFault.lps k)) x = impl_PrefixFault.F k x := by kernel_rfl
theorem impl_PrefixFault.ok (k : Nat) : Contract Tryz.prog 129 impl_PrefixFault.sg (impl_PrefixFault.F k) := ok_of (E := impl_PrefixFault.E) (tysOk _ _) (eqsOk _) ⟨impl_isAddr.ok k, impl_in.ok k, trivial⟩ Tryz.func129 rfl (by kernel_rfl) (impl_PrefixFault.loops k) (impl_PrefixFault.den k)
def impl_isTwo.sg : Sig := ⟨[.b (.int .i64)], [(.bool, .rd)]⟩
def impl_isTwo.E : Env := ⟨tys, bys, [(103, ⟨impl_in.sg, impl_in.F⟩)], eqs⟩
def impl_isTwo.F (k : Nat) (x : (Int × Unit)) : Option ((Bool × Unit) × Unit) :=
  (impl_in.F k (x.1, (0 : Int), (65535 : Int), ())).bind fun y0 =>
  some y0
def impl_isTwo.hd : Hints := ⟨[], [], [2], [0], []⟩
def impl_isTwo.lps (k : Nat) : List (Nat × Lp impl_isTwo.sg.Out) := []
theorem impl_isTwo.loops (k : Nat) : LoopsOk impl_isTwo.E k impl_isTwo.hd (impl_isTwo.lps k) (loopsOf (Go.Proofs.Tryz.f130.body.getD .skip)) := trivial
theorem impl_isTwo.den (k : Nat) (x : Sig.In impl_isTwo.sg.ps) : denFn impl_isTwo.E k Go.Proofs.Tryz.f130 impl_isTwo.sg impl_isTwo.hd (runL k impl_isTwo.hd (impl_isTwo.lps k)) x = impl_isTwo.F k x := by kernel_rfl
theorem impl_isTwo.ok (k : Nat) : Contract Tryz.prog 130 impl_isTwo.sg (impl_isTwo.F k) := ok_of (E := impl_isTwo.E) (tysOk _ _) (eqsOk _) ⟨impl_in.ok k, trivial⟩ Tryz.func130 rfl (by kernel_rfl) (impl_isTwo.loops k) (impl_isTwo.den k)
def impl_RuleFault.sg : Sig := ⟨[.b kRule], [((.int .i64), .rd)]⟩
def impl_RuleFault.E : Env := ⟨tys, bys, [(103, ⟨impl_in.sg, impl_in.F⟩), (129, ⟨impl_PrefixFault.sg, impl_PrefixFault.F⟩), (130, ⟨impl_isTwo.sg, impl_isTwo.F⟩)], eqs⟩
def impl_RuleFault.F (k : Nat) (x : (((Int × (Int × Unit)) × (Int × (Int × (Int × (Bool × (Int × (Int × Unit))))))) × Unit)) : Option ((Int × Unit) × Unit) :=
  (impl_PrefixFault.F k (x.1.1, ())).bind fun y0 =>
  bif (y0.1.1 != (0 : Int)) then
  (some y0)
  else (impl_in.F k (x.1.2.1, (0 : Int), (16 : Int), ())).bind fun y1 =>
    bif (!y1.1.1) then
    (some (((3 : Int), ()), ()))
    else (impl_in.F k (x.1.2.2.1, (0 : Int), (16 : Int), ())).bind fun y2 =>
      bif (!y2.1.1) then
      (some (((3 : Int), ()), ()))
      else (impl_isTwo.F k (x.1.2.2.2.1, ())).bind fun y3 =>
        bif (!y3.1.1) then
        (some (((3 : Int), ()), ()))
        else (impl_in.F k (x.1.2.2.2.2.2.1, (-(1 : Int)), (65535 : Int), ())).bind fun y4 =>
          bif (!y4.1.1) then
          (some (((3 : Int), ()), ()))
          else (impl_in.F k (x.1.2.2.2.2.2.2.1, (0 : Int), (3 : Int), ())).bind fun y5 =>
            bif (!y5.1.1) then
            (some (((3 : Int), ()), ()))
            else bif (decide ((x.1.2.1 > x.1.2.2.1))) then
              (some (((1 : Int), ()), ()))
              else bif x.1.2.2.2.2.1 then
                (bif (x.1.2.2.2.2.2.1 != (-(1 : Int))) then
                  (some (((1 : Int), ()), ()))
                  else bif (x.1.2.2.2.2.2.2.1 != (0 : Int)) then
                    (some (((1 : Int), ()), ()))
                    else some (((0 : Int), ()), ()))
                else some (((0 : Int), ()), ())
def impl_RuleFault.hd : Hints := ⟨[], [(0, [])], [2], [0, 1, 3], []⟩
def impl_RuleFault.lps (k : Nat) : List (Nat × Lp impl_RuleFault.sg.Out) := []
theorem impl_RuleFault.loops (k : Nat) : LoopsOk impl_RuleFault.E k impl_RuleFault.hd (impl_RuleFault.lps k) (loopsOf (Go.Proofs.Tryz.f124.body.getD .skip)) := trivial
theorem impl_RuleFault.den (k : Nat) (x : Sig.In impl_RuleFault.sg.ps) : denFn impl_RuleFault.E k Go.Proofs.Tryz.f124 impl_RuleFault.sg impl_RuleFault.hd (runL k impl_RuleFault.hd (impl_RuleFault.lps k)) x = impl_RuleFault.F k x := by kernel_rfl
theorem impl_RuleFault.ok (k : Nat) : Contract Tryz.prog 124 impl_RuleFault.sg (impl_RuleFault.F k) := ok_of (E := impl_RuleFault.E) (tysOk _ _) (eqsOk _) ⟨impl_in.ok k, impl_PrefixFault.ok k, impl_isTwo.ok k, trivial⟩ Tryz.func124 rfl (by kernel_rfl) (impl_RuleFault.loops k) (impl_RuleFault.den k)
def impl_RulesFault.sg : Sig := ⟨[.b (.sl kRule)], [((.int .i64), .rd)]⟩
def impl_RulesFault.E : Env := ⟨tys, bys, [(124, ⟨impl_RuleFault.sg, impl_RuleFault.F⟩)], eqs⟩
def impl_RulesFault.l4 {ρ : Type} (k : Nat) (c0 : (Int × Unit) → Option ρ) (c1 : Unit → Option ρ) : Nat → List ((Int × (Int × Unit)) × (Int × (Int × (Int × (Bool × (Int × (Int × Unit))))))) → Int → Int → Option ρ
  | 0 => fun _ _ _ => none
  | n + 1 => fun x0 x1 x2 => 
    bif (decide ((x2 < x1))) then
    (bif (Go.Dn.inB x2 (((List.length x0) : Nat) : Int)) then
      (Go.Dn.share (List.getD x0 (Int.toNat x2) (((0 : Int), ((0 : Int), ())), ((0 : Int), ((0 : Int), ((0 : Int), (false, ((0 : Int), ((0 : Int), ())))))))) fun s0 =>
        (impl_RuleFault.F k (s0, ())).bind fun y1 =>
        bif (y1.1.1 != (0 : Int)) then
        (c0 (y1.1.1, ()))
        else impl_RulesFault.l4 k c0 c1 n x0 x1 (IntKind.wrap .i64 (x2 + (1 : Int))))
      else none)
    else c1 (())
def impl_RulesFault.F (k : Nat) (x : ((List ((Int × (Int × Unit)) × (Int × (Int × (Int × (Bool × (Int × (Int × Unit)))))))) × Unit)) : Option ((Int × Unit) × Unit) :=
  bif (decide (((((List.length x.1) : Nat) : Int) > (8 : Int)))) then
  (some (((2 : Int), ()), ()))
  else impl_RulesFault.l4 k (fun e2 =>
      some (e2, ())) (fun e3 =>
      some (((0 : Int), ()), ())) k x.1 (((List.length x.1) : Nat) : Int) (0 : Int)
def impl_RulesFault.hd : Hints := ⟨[(4, ⟨[9, 10, 11], []⟩)], [(0, []), (1, [9, 10, 11])], [2], [0, 4, 5, 9, 10, 11], []⟩
def impl_RulesFault.lps (k : Nat) : List (Nat × Lp impl_RulesFault.sg.Out) := [(4, ⟨[.l kRule, .i, .i], fun x => (fun x0 x1 x2 => ⟨[(9, .v false [.fz kRule x0]), (10, .v false [.int .i64 x1]), (11, .v false [.int .i64 x2])], [], []⟩) x.1 x.2.1 x.2.2.1, fun C n x => impl_RulesFault.l4 k (fun y => C .ret ((fun y0 => ⟨[(2, .v false [.int .i64 y0])], [], []⟩) y.1)) (fun _ => C (.exit 0) ⟨[], [], []⟩) n x.1 x.2.1 x.2.2.1⟩)]
theorem impl_RulesFault.loops (k : Nat) : LoopsOk impl_RulesFault.E k impl_RulesFault.hd (impl_RulesFault.lps k) (loopsOf (Go.Proofs.Tryz.f102.body.getD .skip)) := ⟨⟨fun _ _ => rfl, fun _ _ _ => by kernel_rfl, fun _ => ⟨rfl, rfl⟩⟩, trivial⟩
theorem impl_RulesFault.den (k : Nat) (x : Sig.In impl_RulesFault.sg.ps) : denFn impl_RulesFault.E k Go.Proofs.Tryz.f102 impl_RulesFault.sg impl_RulesFault.hd (runL k impl_RulesFault.hd (impl_RulesFault.lps k)) x = impl_RulesFault.F k x := by kernel_rfl
theorem impl_RulesFault.ok (k : Nat) : Contract Tryz.prog 102 impl_RulesFault.sg (impl_RulesFault.F k) := ok_of (E := impl_RulesFault.E) (tysOk _ _) (eqsOk _) ⟨impl_RuleFault.ok k, trivial⟩ Tryz.func102 rfl (by kernel_rfl) (impl_RulesFault.loops k) (impl_RulesFault.den k)
def impl_SettingsFault.sg : Sig := ⟨[.b kSettings], [((.int .i64), .rd)]⟩
def impl_SettingsFault.E : Env := ⟨tys, bys, [(100, ⟨impl_ConfigFault.sg, impl_ConfigFault.F⟩), (101, ⟨impl_isAddr.sg, impl_isAddr.F⟩), (102, ⟨impl_RulesFault.sg, impl_RulesFault.F⟩)], eqs⟩
def impl_SettingsFault.F (k : Nat) (x : (((Int × (Int × (Int × Unit))) × (Int × ((List ((Int × (Int × Unit)) × (Int × (Int × (Int × (Bool × (Int × (Int × Unit)))))))) × ((List ((Int × (Int × Unit)) × (Int × (Int × (Int × (Bool × (Int × (Int × Unit)))))))) × Unit)))) × Unit)) : Option ((Int × Unit) × Unit) :=
  (impl_ConfigFault.F k (x.1.1, ())).bind fun y0 =>
  bif (y0.1.1 != (0 : Int)) then
  (some y0)
  else (impl_isAddr.F k (x.1.2.1, ())).bind fun y1 =>
    bif (!y1.1.1) then
    (some (((3 : Int), ()), ()))
    else (impl_RulesFault.F k (x.1.2.2.1, ())).bind fun y2 =>
      bif (y2.1.1 != (0 : Int)) then
      (some y2)
      else (impl_RulesFault.F k x.1.2.2.2).bind fun y3 =>
        some y3
def impl_SettingsFault.hd : Hints := ⟨[], [], [2], [0, 1, 3, 4], []⟩
def impl_SettingsFault.lps (k : Nat) : List (Nat × Lp impl_SettingsFault.sg.Out) := []
theorem impl_SettingsFault.loops (k : Nat) : LoopsOk impl_SettingsFault.E k impl_SettingsFault.hd (impl_SettingsFault.lps k) (loopsOf (Go.Proofs.Tryz.f61.body.getD .skip)) := trivial
theorem impl_SettingsFault.den (k : Nat) (x : Sig.In impl_SettingsFault.sg.ps) : denFn impl_SettingsFault.E k Go.Proofs.Tryz.f61 impl_SettingsFault.sg impl_SettingsFault.hd (runL k impl_SettingsFault.hd (impl_SettingsFault.lps k)) x = impl_SettingsFault.F k x := by kernel_rfl
theorem impl_SettingsFault.ok (k : Nat) : Contract Tryz.prog 61 impl_SettingsFault.sg (impl_SettingsFault.F k) := ok_of (E := impl_SettingsFault.E) (tysOk _ _) (eqsOk _) ⟨impl_ConfigFault.ok k, impl_isAddr.ok k, impl_RulesFault.ok k, trivial⟩ Tryz.func61 rfl (by kernel_rfl) (impl_SettingsFault.loops k) (impl_SettingsFault.den k)
def impl_isNode.sg : Sig := ⟨[.b (.int .i64)], [(.bool, .rd)]⟩
def impl_isNode.E : Env := ⟨tys, bys, [(103, ⟨impl_in.sg, impl_in.F⟩)], eqs⟩
def impl_isNode.F (k : Nat) (x : (Int × Unit)) : Option ((Bool × Unit) × Unit) :=
  (impl_in.F k (x.1, (0 : Int), (1 : Int), ())).bind fun y0 =>
  some y0
def impl_isNode.hd : Hints := ⟨[], [], [2], [0], []⟩
def impl_isNode.lps (k : Nat) : List (Nat × Lp impl_isNode.sg.Out) := []
theorem impl_isNode.loops (k : Nat) : LoopsOk impl_isNode.E k impl_isNode.hd (impl_isNode.lps k) (loopsOf (Go.Proofs.Tryz.f64.body.getD .skip)) := trivial
theorem impl_isNode.den (k : Nat) (x : Sig.In impl_isNode.sg.ps) : denFn impl_isNode.E k Go.Proofs.Tryz.f64 impl_isNode.sg impl_isNode.hd (runL k impl_isNode.hd (impl_isNode.lps k)) x = impl_isNode.F k x := by kernel_rfl
theorem impl_isNode.ok (k : Nat) : Contract Tryz.prog 64 impl_isNode.sg (impl_isNode.F k) := ok_of (E := impl_isNode.E) (tysOk _ _) (eqsOk _) ⟨impl_in.ok k, trivial⟩ Tryz.func64 rfl (by kernel_rfl) (impl_isNode.loops k) (impl_isNode.den k)
def impl_isEpoch.sg : Sig := ⟨[.b (.int .i64)], [(.bool, .rd)]⟩
def impl_isEpoch.E : Env := ⟨tys, bys, [(103, ⟨impl_in.sg, impl_in.F⟩)], eqs⟩
def impl_isEpoch.F (k : Nat) (x : (Int × Unit)) : Option ((Bool × Unit) × Unit) :=
  (impl_in.F k (x.1, (1 : Int), (1000 : Int), ())).bind fun y0 =>
  some y0
def impl_isEpoch.hd : Hints := ⟨[], [], [2], [0], []⟩
def impl_isEpoch.lps (k : Nat) : List (Nat × Lp impl_isEpoch.sg.Out) := []
theorem impl_isEpoch.loops (k : Nat) : LoopsOk impl_isEpoch.E k impl_isEpoch.hd (impl_isEpoch.lps k) (loopsOf (Go.Proofs.Tryz.f105.body.getD .skip)) := trivial
theorem impl_isEpoch.den (k : Nat) (x : Sig.In impl_isEpoch.sg.ps) : denFn impl_isEpoch.E k Go.Proofs.Tryz.f105 impl_isEpoch.sg impl_isEpoch.hd (runL k impl_isEpoch.hd (impl_isEpoch.lps k)) x = impl_isEpoch.F k x := by kernel_rfl
theorem impl_isEpoch.ok (k : Nat) : Contract Tryz.prog 105 impl_isEpoch.sg (impl_isEpoch.F k) := ok_of (E := impl_isEpoch.E) (tysOk _ _) (eqsOk _) ⟨impl_in.ok k, trivial⟩ Tryz.func105 rfl (by kernel_rfl) (impl_isEpoch.loops k) (impl_isEpoch.den k)
def impl_isPeer.sg : Sig := ⟨[.b (.int .i64)], [(.bool, .rd)]⟩
def impl_isPeer.E : Env := ⟨tys, bys, [(103, ⟨impl_in.sg, impl_in.F⟩)], eqs⟩
def impl_isPeer.F (k : Nat) (x : (Int × Unit)) : Option ((Bool × Unit) × Unit) :=
  (impl_in.F k (x.1, (0 : Int), (2 : Int), ())).bind fun y0 =>
  some y0
def impl_isPeer.hd : Hints := ⟨[], [], [2], [0], []⟩
def impl_isPeer.lps (k : Nat) : List (Nat × Lp impl_isPeer.sg.Out) := []
theorem impl_isPeer.loops (k : Nat) : LoopsOk impl_isPeer.E k impl_isPeer.hd (impl_isPeer.lps k) (loopsOf (Go.Proofs.Tryz.f84.body.getD .skip)) := trivial
theorem impl_isPeer.den (k : Nat) (x : Sig.In impl_isPeer.sg.ps) : denFn impl_isPeer.E k Go.Proofs.Tryz.f84 impl_isPeer.sg impl_isPeer.hd (runL k impl_isPeer.hd (impl_isPeer.lps k)) x = impl_isPeer.F k x := by kernel_rfl
theorem impl_isPeer.ok (k : Nat) : Contract Tryz.prog 84 impl_isPeer.sg (impl_isPeer.F k) := ok_of (E := impl_isPeer.E) (tysOk _ _) (eqsOk _) ⟨impl_in.ok k, trivial⟩ Tryz.func84 rfl (by kernel_rfl) (impl_isPeer.loops k) (impl_isPeer.den k)
def impl_EventFault.sg : Sig := ⟨[.b kEvent], [((.int .i64), .rd)]⟩
def impl_EventFault.E : Env := ⟨tys, bys, [(84, ⟨impl_isPeer.sg, impl_isPeer.F⟩), (103, ⟨impl_in.sg, impl_in.F⟩)], eqs⟩
def impl_EventFault.F (k : Nat) (x : ((Int × (Int × ((List Int) × Unit))) × Unit)) : Option ((Int × Unit) × Unit) :=
  (impl_in.F k (x.1.1, (1 : Int), (4 : Int), ())).bind fun y0 =>
  bif (!y0.1.1) then
  (some (((1 : Int), ()), ()))
  else (impl_isPeer.F k (x.1.2.1, ())).bind fun y1 =>
    bif (!y1.1.1) then
    (some (((3 : Int), ()), ()))
    else bif (x.1.1 == (3 : Int)) then
      (bif (x.1.2.1 != (0 : Int)) then
        (some (((3 : Int), ()), ()))
        else bif (!((x.1.1 == (2 : Int)) == (decide (((((List.length x.1.2.2.1) : Nat) : Int) > (0 : Int)))))) then
          (some (((1 : Int), ()), ()))
          else bif (decide (((((List.length x.1.2.2.1) : Nat) : Int) > (60 : Int)))) then
            (some (((2 : Int), ()), ()))
            else some (((0 : Int), ()), ()))
      else bif (!((x.1.1 == (2 : Int)) == (decide (((((List.length x.1.2.2.1) : Nat) : Int) > (0 : Int)))))) then
        (some (((1 : Int), ()), ()))
        else bif (decide (((((List.length x.1.2.2.1) : Nat) : Int) > (60 : Int)))) then
          (some (((2 : Int), ()), ()))
          else some (((0 : Int), ()), ())
def impl_EventFault.hd : Hints := ⟨[], [(0, [])], [2], [0, 1], []⟩
def impl_EventFault.lps (k : Nat) : List (Nat × Lp impl_EventFault.sg.Out) := []
theorem impl_EventFault.loops (k : Nat) : LoopsOk impl_EventFault.E k impl_EventFault.hd (impl_EventFault.lps k) (loopsOf (Go.Proofs.Tryz.f107.body.getD .skip)) := trivial
theorem impl_EventFault.den (k : Nat) (x : Sig.In impl_EventFault.sg.ps) : denFn impl_EventFault.E k Go.Proofs.Tryz.f107 impl_EventFault.sg impl_EventFault.hd (runL k impl_EventFault.hd (impl_EventFault.lps k)) x = impl_EventFault.F k x := by kernel_rfl
theorem impl_EventFault.ok (k : Nat) : Contract Tryz.prog 107 impl_EventFault.sg (impl_EventFault.F k) := ok_of (E := impl_EventFault.E) (tysOk _ _) (eqsOk _) ⟨impl_isPeer.ok k, impl_in.ok k, trivial⟩ Tryz.func107 rfl (by kernel_rfl) (impl_EventFault.loops k) (impl_EventFault.den k)
def impl_EntryFault.sg : Sig := ⟨[.b kEntry], [((.int .i64), .rd)]⟩
def impl_EntryFault.E : Env := ⟨tys, bys, [(105, ⟨impl_isEpoch.sg, impl_isEpoch.F⟩), (107, ⟨impl_EventFault.sg, impl_EventFault.F⟩)], eqs⟩
def impl_EntryFault.F (k : Nat) (x : ((Int × ((Int × (Int × ((List Int) × Unit))) × Unit)) × Unit)) : Option ((Int × Unit) × Unit) :=
  (impl_isEpoch.F k (x.1.1, ())).bind fun y0 =>
  bif (!y0.1.1) then
  (some (((3 : Int), ()), ()))
  else (impl_EventFault.F k x.1.2).bind fun y1 =>
    some y1
def impl_EntryFault.hd : Hints := ⟨[], [], [2], [0, 1], []⟩
def impl_EntryFault.lps (k : Nat) : List (Nat × Lp impl_EntryFault.sg.Out) := []
theorem impl_EntryFault.loops (k : Nat) : LoopsOk impl_EntryFault.E k impl_EntryFault.hd (impl_EntryFault.lps k) (loopsOf (Go.Proofs.Tryz.f66.body.getD .skip)) := trivial
theorem impl_EntryFault.den (k : Nat) (x : Sig.In impl_EntryFault.sg.ps) : denFn impl_EntryFault.E k Go.Proofs.Tryz.f66 impl_EntryFault.sg impl_EntryFault.hd (runL k impl_EntryFault.hd (impl_EntryFault.lps k)) x = impl_EntryFault.F k x := by kernel_rfl
theorem impl_EntryFault.ok (k : Nat) : Contract Tryz.prog 66 impl_EntryFault.sg (impl_EntryFault.F k) := ok_of (E := impl_EntryFault.E) (tysOk _ _) (eqsOk _) ⟨impl_isEpoch.ok k, impl_EventFault.ok k, trivial⟩ Tryz.func66 rfl (by kernel_rfl) (impl_EntryFault.loops k) (impl_EntryFault.den k)
def impl_size_impl_Entry.sg : Sig := ⟨[.b (.sl kEntry)], [((.int .i64), .rd)]⟩
def impl_size_impl_Entry.E : Env := ⟨tys, bys, [], eqs⟩
def impl_size_impl_Entry.F (k : Nat) (x : ((List (Int × ((Int × (Int × ((List Int) × Unit))) × Unit))) × Unit)) : Option ((Int × Unit) × Unit) :=
  some (((((List.length x.1) : Nat) : Int), ()), ())
def impl_size_impl_Entry.hd : Hints := ⟨[], [], [2], [0], []⟩
def impl_size_impl_Entry.lps (k : Nat) : List (Nat × Lp impl_size_impl_Entry.sg.Out) := []
theorem impl_size_impl_Entry.loops (k : Nat) : LoopsOk impl_size_impl_Entry.E k impl_size_impl_Entry.hd (impl_size_impl_Entry.lps k) (loopsOf (Go.Proofs.Tryz.f78.body.getD .skip)) := trivial
theorem impl_size_impl_Entry.den (k : Nat) (x : Sig.In impl_size_impl_Entry.sg.ps) : denFn impl_size_impl_Entry.E k Go.Proofs.Tryz.f78 impl_size_impl_Entry.sg impl_size_impl_Entry.hd (runL k impl_size_impl_Entry.hd (impl_size_impl_Entry.lps k)) x = impl_size_impl_Entry.F k x := by kernel_rfl
theorem impl_size_impl_Entry.ok (k : Nat) : Contract Tryz.prog 78 impl_size_impl_Entry.sg (impl_size_impl_Entry.F k) := ok_of (E := impl_size_impl_Entry.E) (tysOk _ _) (eqsOk _) trivial Tryz.func78 rfl (by kernel_rfl) (impl_size_impl_Entry.loops k) (impl_size_impl_Entry.den k)
def impl_NodeFault.sg : Sig := ⟨[.b kNode], [((.int .i64), .rd)]⟩
def impl_NodeFault.E : Env := ⟨tys, bys, [(64, ⟨impl_isNode.sg, impl_isNode.F⟩), (66, ⟨impl_EntryFault.sg, impl_EntryFault.F⟩), (78, ⟨impl_size_impl_Entry.sg, impl_size_impl_Entry.F⟩), (103, ⟨impl_in.sg, impl_in.F⟩)], eqs⟩
def impl_NodeFault.l6 {ρ : Type} (k : Nat) (c0 : (Int × Unit) → Option ρ) (c1 : (Int × (Bool × (Int × (Int × (List (Int × ((Int × (Int × ((List Int) × Unit))) × Unit)) × (Int × (Int × (Int × (Int × Unit))))))))) → Option ρ) : Nat → List (Int × ((Int × (Int × ((List Int) × Unit))) × Unit)) → Int → Int → Int → Bool → Int → Int → List (Int × ((Int × (Int × ((List Int) × Unit))) × Unit)) → Int → Int → Int → Int → Option ρ
  | 0 => fun _ _ _ _ _ _ _ _ _ _ _ _ => none
  | n + 1 => fun x0 x1 x2 x3 x4 x5 x6 x7 x8 x9 x10 x11 => 
    bif (decide ((x2 < x1))) then
    (bif (Go.Dn.inB x2 (((List.length x0) : Nat) : Int)) then
      (Go.Dn.share (List.getD x0 (Int.toNat x2) ((0 : Int), (((0 : Int), ((0 : Int), (([] : List Int), ()))), ()))) fun s3 =>
        (impl_EntryFault.F k (s3, ())).bind fun y4 =>
        bif (y4.1.1 != (0 : Int)) then
        (c0 (y4.1.1, ()))
        else bif (decide ((s3.1 > x6))) then
          (c0 ((1 : Int), ()))
          else bif (decide ((x2 > (0 : Int)))) then
            (bif (Go.Dn.inB (IntKind.wrap .i64 (x2 - (1 : Int))) (((List.length x7) : Nat) : Int)) then
              (Go.Dn.share (List.getD x7 (Int.toNat (IntKind.wrap .i64 (x2 - (1 : Int)))) ((0 : Int), (((0 : Int), ((0 : Int), (([] : List Int), ()))), ()))) fun s5 =>
                bif (decide ((s3.1 < s5.1))) then
                (c0 ((1 : Int), ()))
                else impl_NodeFault.l6 k c0 c1 n x0 x1 (IntKind.wrap .i64 (x2 + (1 : Int))) x3 x4 x5 x6 x7 x8 x9 x10 x11)
              else none)
            else impl_NodeFault.l6 k c0 c1 n x0 x1 (IntKind.wrap .i64 (x2 + (1 : Int))) x3 x4 x5 x6 x7 x8 x9 x10 x11)
      else none)
    else c1 (x3, x4, x5, x6, x7, x8, x9, x10, x11, ())
def impl_NodeFault.F (k : Nat) (x : ((Int × (Bool × (Int × (Int × ((List (Int × ((Int × (Int × ((List Int) × Unit))) × Unit))) × (Int × (Int × (Int × (Int × Unit))))))))) × Unit)) : Option ((Int × Unit) × Unit) :=
  (impl_isNode.F k (x.1.1, ())).bind fun y0 =>
  bif (!y0.1.1) then
  (some (((3 : Int), ()), ()))
  else (impl_in.F k (x.1.2.2.1, (0 : Int), (1 : Int), ())).bind fun y1 =>
    bif (!y1.1.1) then
    (some (((3 : Int), ()), ()))
    else (impl_in.F k (x.1.2.2.2.1, (0 : Int), (1000 : Int), ())).bind fun y2 =>
      bif (!y2.1.1) then
      (some (((3 : Int), ()), ()))
      else bif (decide (((((List.length x.1.2.2.2.2.1) : Nat) : Int) > (100 : Int)))) then
        (some (((2 : Int), ()), ()))
        else impl_NodeFault.l6 k (fun e6 =>
            some (e6, ())) (fun e7 =>
            (impl_size_impl_Entry.F k (e7.2.2.2.2.1, ())).bind fun y8 =>
            (impl_in.F k (e7.2.2.2.2.2.1, (0 : Int), y8.1)).bind fun y9 =>
            bif (!y9.1.1) then
            (some (((3 : Int), ()), ()))
            else (impl_in.F k (e7.2.2.2.2.2.2.1, (0 : Int), y8.1)).bind fun y10 =>
              bif (!y10.1.1) then
              (some (((3 : Int), ()), ()))
              else (impl_in.F k (e7.2.2.2.2.2.2.2.1, (0 : Int), y8.1)).bind fun y11 =>
                bif (!y11.1.1) then
                (some (((3 : Int), ()), ()))
                else (impl_in.F k (e7.2.2.2.2.2.2.2.2.1, (0 : Int), e7.2.2.2.2.2.1, ())).bind fun y12 =>
                  bif (!y12.1.1) then
                  (some (((3 : Int), ()), ()))
                  else bif (e7.2.2.1 == (1 : Int)) then
                    (bif (!e7.2.1) then
                      (some (((1 : Int), ()), ()))
                      else bif (e7.2.2.2.1 == (0 : Int)) then
                        (some (((1 : Int), ()), ()))
                        else bif (e7.2.2.2.2.2.2.1 != (0 : Int)) then
                          (some (((1 : Int), ()), ()))
                          else bif (!(e7.2.2.1 == (1 : Int))) then
                            (bif (e7.2.2.2.2.2.2.2.1 != (0 : Int)) then
                              (some (((1 : Int), ()), ()))
                              else bif (!e7.2.1) then
                                (bif (e7.2.2.2.2.2.1 != y8.1.1) then
                                  (some (((1 : Int), ()), ()))
                                  else bif (e7.2.2.2.2.2.2.1 != (0 : Int)) then
                                    (some (((1 : Int), ()), ()))
                                    else bif (e7.2.2.2.2.2.2.2.2.1 != (0 : Int)) then
                                      (some (((1 : Int), ()), ()))
                                      else some (((0 : Int), ()), ()))
                                else some (((0 : Int), ()), ()))
                            else bif (!e7.2.1) then
                              (bif (e7.2.2.2.2.2.1 != y8.1.1) then
                                (some (((1 : Int), ()), ()))
                                else bif (e7.2.2.2.2.2.2.1 != (0 : Int)) then
                                  (some (((1 : Int), ()), ()))
                                  else bif (e7.2.2.2.2.2.2.2.2.1 != (0 : Int)) then
                                    (some (((1 : Int), ()), ()))
                                    else some (((0 : Int), ()), ()))
                              else some (((0 : Int), ()), ()))
                    else bif (!(e7.2.2.1 == (1 : Int))) then
                      (bif (e7.2.2.2.2.2.2.2.1 != (0 : Int)) then
                        (some (((1 : Int), ()), ()))
                        else bif (!e7.2.1) then
                          (bif (e7.2.2.2.2.2.1 != y8.1.1) then
                            (some (((1 : Int), ()), ()))
                            else bif (e7.2.2.2.2.2.2.1 != (0 : Int)) then
                              (some (((1 : Int), ()), ()))
                              else bif (e7.2.2.2.2.2.2.2.2.1 != (0 : Int)) then
                                (some (((1 : Int), ()), ()))
                                else some (((0 : Int), ()), ()))
                          else some (((0 : Int), ()), ()))
                      else bif (!e7.2.1) then
                        (bif (e7.2.2.2.2.2.1 != y8.1.1) then
                          (some (((1 : Int), ()), ()))
                          else bif (e7.2.2.2.2.2.2.1 != (0 : Int)) then
                            (some (((1 : Int), ()), ()))
                            else bif (e7.2.2.2.2.2.2.2.2.1 != (0 : Int)) then
                              (some (((1 : Int), ()), ()))
                              else some (((0 : Int), ()), ()))
                        else some (((0 : Int), ()), ())) k x.1.2.2.2.2.1 (((List.length x.1.2.2.2.2.1) : Nat) : Int) (0 : Int) x.1.1 x.1.2.1 x.1.2.2.1 x.1.2.2.2.1 x.1.2.2.2.2.1 x.1.2.2.2.2.2.1 x.1.2.2.2.2.2.2.1 x.1.2.2.2.2.2.2.2.1 x.1.2.2.2.2.2.2.2.2.1
def impl_NodeFault.hd : Hints := ⟨[(6, ⟨[1, 31, 32, 33], []⟩)], [(0, [1]), (1, [1]), (2, [1, 31, 32, 33]), (3, [])], [2], [0, 1, 3, 4, 5, 6, 7, 31, 32, 33], [(11, [0, 1, 0, 4, 15, 31, 63, 127, 255, 511, 1023, 511, 2559, 511, 8703, 31231, 63999, 129535, 262143, 524287, 1048575])]⟩
def impl_NodeFault.lps (k : Nat) : List (Nat × Lp impl_NodeFault.sg.Out) := [(6, ⟨[.l kEntry, .i, .i, .i, .b, .i, .i, .l kEntry, .i, .i, .i, .i], fun x => (fun x0 x1 x2 x3 x4 x5 x6 x7 x8 x9 x10 x11 => ⟨[(1, .v false [.box 0 0]), (31, .v false [.fz kEntry x0]), (32, .v false [.int .i64 x1]), (33, .v false [.int .i64 x2])], [(0, .box [.int .i64 x3, .bool x4, .int .i64 x5, .int .i64 x6, .fz kEntry x7, .int .i64 x8, .int .i64 x9, .int .i64 x10, .int .i64 x11])], []⟩) x.1 x.2.1 x.2.2.1 x.2.2.2.1 x.2.2.2.2.1 x.2.2.2.2.2.1 x.2.2.2.2.2.2.1 x.2.2.2.2.2.2.2.1 x.2.2.2.2.2.2.2.2.1 x.2.2.2.2.2.2.2.2.2.1 x.2.2.2.2.2.2.2.2.2.2.1 x.2.2.2.2.2.2.2.2.2.2.2.1, fun C n x => impl_NodeFault.l6 k (fun y => C .ret ((fun y0 => ⟨[(2, .v false [.int .i64 y0])], [], []⟩) y.1)) (fun y => C (.exit 1) ((fun y0 y1 y2 y3 y4 y5 y6 y7 y8 => ⟨[(1, .v false [.box 0 0])], [(0, .box [.int .i64 y0, .bool y1, .int .i64 y2, .int .i64 y3, .fz kEntry y4, .int .i64 y5, .int .i64 y6, .int .i64 y7, .int .i64 y8])], []⟩) y.1 y.2.1 y.2.2.1 y.2.2.2.1 y.2.2.2.2.1 y.2.2.2.2.2.1 y.2.2.2.2.2.2.1 y.2.2.2.2.2.2.2.1 y.2.2.2.2.2.2.2.2.1)) n x.1 x.2.1 x.2.2.1 x.2.2.2.1 x.2.2.2.2.1 x.2.2.2.2.2.1 x.2.2.2.2.2.2.1 x.2.2.2.2.2.2.2.1 x.2.2.2.2.2.2.2.2.1 x.2.2.2.2.2.2.2.2.2.1 x.2.2.2.2.2.2.2.2.2.2.1 x.2.2.2.2.2.2.2.2.2.2.2.1⟩)]
theorem impl_NodeFault.loops (k : Nat) : LoopsOk impl_NodeFault.E k impl_NodeFault.hd (impl_NodeFault.lps k) (loopsOf (Go.Proofs.Tryz.f62.body.getD .skip)) := ⟨⟨fun _ _ => rfl, fun _ _ _ => by kernel_rfl, fun _ => ⟨rfl, rfl⟩⟩, trivial⟩
theorem impl_NodeFault.den (k : Nat) (x : Sig.In impl_NodeFault.sg.ps) : denFn impl_NodeFault.E k Go.Proofs.Tryz.f62 impl_NodeFault.sg impl_NodeFault.hd (runL k impl_NodeFault.hd (impl_NodeFault.lps k)) x = impl_NodeFault.F k x := by kernel_rfl
theorem impl_NodeFault.ok (k : Nat) : Contract Tryz.prog 62 impl_NodeFault.sg (impl_NodeFault.F k) := ok_of (E := impl_NodeFault.E) (tysOk _ _) (eqsOk _) ⟨impl_isNode.ok k, impl_EntryFault.ok k, impl_size_impl_Entry.ok k, impl_in.ok k, trivial⟩ Tryz.func62 rfl (by kernel_rfl) (impl_NodeFault.loops k) (impl_NodeFault.den k)
def impl_size_byte.sg : Sig := ⟨[.b (.sl (.int .u8))], [((.int .i64), .rd)]⟩
def impl_size_byte.E : Env := ⟨tys, bys, [], eqs⟩
def impl_size_byte.F (k : Nat) (x : ((List Int) × Unit)) : Option ((Int × Unit) × Unit) :=
  some (((((List.length x.1) : Nat) : Int), ()), ())
def impl_size_byte.hd : Hints := ⟨[], [], [2], [0], []⟩
def impl_size_byte.lps (k : Nat) : List (Nat × Lp impl_size_byte.sg.Out) := []
theorem impl_size_byte.loops (k : Nat) : LoopsOk impl_size_byte.E k impl_size_byte.hd (impl_size_byte.lps k) (loopsOf (Go.Proofs.Tryz.f104.body.getD .skip)) := trivial
theorem impl_size_byte.den (k : Nat) (x : Sig.In impl_size_byte.sg.ps) : denFn impl_size_byte.E k Go.Proofs.Tryz.f104 impl_size_byte.sg impl_size_byte.hd (runL k impl_size_byte.hd (impl_size_byte.lps k)) x = impl_size_byte.F k x := by kernel_rfl
theorem impl_size_byte.ok (k : Nat) : Contract Tryz.prog 104 impl_size_byte.sg (impl_size_byte.F k) := ok_of (E := impl_size_byte.E) (tysOk _ _) (eqsOk _) trivial Tryz.func104 rfl (by kernel_rfl) (impl_size_byte.loops k) (impl_size_byte.den k)
def impl_WireFault.sg : Sig := ⟨[.b kWire], [((.int .i64), .rd)]⟩
def impl_WireFault.E : Env := ⟨tys, bys, [(103, ⟨impl_in.sg, impl_in.F⟩), (104, ⟨impl_size_byte.sg, impl_size_byte.F⟩)], eqs⟩
def impl_WireFault.F (k : Nat) (x : ((Int × ((List Int) × (Int × ((List Int) × Unit)))) × Unit)) : Option ((Int × Unit) × Unit) :=
  (impl_in.F k (x.1.1, (0 : Int), (1000 : Int), ())).bind fun y0 =>
  bif (!y0.1.1) then
  (some (((3 : Int), ()), ()))
  else bif (decide (((((List.length x.1.2.1) : Nat) : Int) > (2000 : Int)))) then
    (some (((2 : Int), ()), ()))
    else bif (decide (((((List.length x.1.2.2.2.1) : Nat) : Int) > (2000 : Int)))) then
      (some (((2 : Int), ()), ()))
      else (impl_size_byte.F k (x.1.2.1, ())).bind fun y1 =>
        (impl_in.F k (x.1.2.2.1, (0 : Int), y1.1)).bind fun y2 =>
        bif (!y2.1.1) then
        (some (((3 : Int), ()), ()))
        else some (((0 : Int), ()), ())
def impl_WireFault.hd : Hints := ⟨[], [(0, [])], [2], [0, 1], [(5, [0, 1, 0, 4, 12, 31, 63, 127])]⟩
def impl_WireFault.lps (k : Nat) : List (Nat × Lp impl_WireFault.sg.Out) := []
theorem impl_WireFault.loops (k : Nat) : LoopsOk impl_WireFault.E k impl_WireFault.hd (impl_WireFault.lps k) (loopsOf (Go.Proofs.Tryz.f63.body.getD .skip)) := trivial
theorem impl_WireFault.den (k : Nat) (x : Sig.In impl_WireFault.sg.ps) : denFn impl_WireFault.E k Go.Proofs.Tryz.f63 impl_WireFault.sg impl_WireFault.hd (runL k impl_WireFault.hd (impl_WireFault.lps k)) x = impl_WireFault.F k x := by kernel_rfl
theorem impl_WireFault.ok (k : Nat) : Contract Tryz.prog 63 impl_WireFault.sg (impl_WireFault.F k) := ok_of (E := impl_WireFault.E) (tysOk _ _) (eqsOk _) ⟨impl_in.ok k, impl_size_byte.ok k, trivial⟩ Tryz.func63 rfl (by kernel_rfl) (impl_WireFault.loops k) (impl_WireFault.den k)
def impl_Entry_isZero.sg : Sig := ⟨[.b kEntry], [(.bool, .rd)]⟩
def impl_Entry_isZero.E : Env := ⟨tys, bys, [], eqs⟩
def impl_Entry_isZero.F (k : Nat) (x : ((Int × ((Int × (Int × ((List Int) × Unit))) × Unit)) × Unit)) : Option ((Bool × Unit) × Unit) :=
  bif (x.1.1 == (0 : Int)) then
  (bif (x.1.2.1.1 == (0 : Int)) then
    (bif (x.1.2.1.2.1 == (0 : Int)) then
      (some ((((((List.length x.1.2.1.2.2.1) : Nat) : Int) == (0 : Int)), ()), ()))
      else some ((false, ()), ()))
    else some ((false, ()), ()))
  else some ((false, ()), ())
def impl_Entry_isZero.hd : Hints := ⟨[], [], [2], [0, 1], []⟩
def impl_Entry_isZero.lps (k : Nat) : List (Nat × Lp impl_Entry_isZero.sg.Out) := []
theorem impl_Entry_isZero.loops (k : Nat) : LoopsOk impl_Entry_isZero.E k impl_Entry_isZero.hd (impl_Entry_isZero.lps k) (loopsOf (Go.Proofs.Tryz.f106.body.getD .skip)) := trivial
theorem impl_Entry_isZero.den (k : Nat) (x : Sig.In impl_Entry_isZero.sg.ps) : denFn impl_Entry_isZero.E k Go.Proofs.Tryz.f106 impl_Entry_isZero.sg impl_Entry_isZero.hd (runL k impl_Entry_isZero.hd (impl_Entry_isZero.lps k)) x = impl_Entry_isZero.F k x := by kernel_rfl
theorem impl_Entry_isZero.ok (k : Nat) : Contract Tryz.prog 106 impl_Entry_isZero.sg (impl_Entry_isZero.F k) := ok_of (E := impl_Entry_isZero.E) (tysOk _ _) (eqsOk _) trivial Tryz.func106 rfl (by kernel_rfl) (impl_Entry_isZero.loops k) (impl_Entry_isZero.den k)
def impl_MailFault.sg : Sig := ⟨[.b kNode, .b kMail], [((.int .i64), .rd)]⟩
def impl_MailFault.E : Env := ⟨tys, bys, [(62, ⟨impl_NodeFault.sg, impl_NodeFault.F⟩), (66, ⟨impl_EntryFault.sg, impl_EntryFault.F⟩), (103, ⟨impl_in.sg, impl_in.F⟩), (105, ⟨impl_isEpoch.sg, impl_isEpoch.F⟩), (106, ⟨impl_Entry_isZero.sg, impl_Entry_isZero.F⟩)], eqs⟩
def impl_MailFault.F (k : Nat) (x : ((Int × (Bool × (Int × (Int × ((List (Int × ((Int × (Int × ((List Int) × Unit))) × Unit))) × (Int × (Int × (Int × (Int × Unit))))))))) × ((Int × (Int × (Int × (Int × (Int × (Bool × ((Int × ((Int × (Int × ((List Int) × Unit))) × Unit)) × Unit))))))) × Unit))) : Option ((Int × Unit) × Unit) :=
  (impl_NodeFault.F k (x.1, ())).bind fun y0 =>
  bif (y0.1.1 != (0 : Int)) then
  (some y0)
  else bif (x.2.1.1 != (1 : Int)) then
    (bif (x.2.1.1 != (2 : Int)) then
      (some (((1 : Int), ()), ()))
      else bif (x.2.1.2.1 != x.1.1) then
        (some (((1 : Int), ()), ()))
        else (impl_isEpoch.F k (x.2.1.2.2.1, ())).bind fun y1 =>
          bif (!y1.1.1) then
          (some (((3 : Int), ()), ()))
          else (impl_in.F k (x.2.1.2.2.2.1, (0 : Int), (100 : Int), ())).bind fun y2 =>
            bif (!y2.1.1) then
            (some (((3 : Int), ()), ()))
            else (impl_in.F k (x.2.1.2.2.2.2.1, (0 : Int), (1000 : Int), ())).bind fun y3 =>
              bif (!y3.1.1) then
              (some (((3 : Int), ()), ()))
              else bif (x.2.1.1 == (2 : Int)) then
                (bif x.2.1.2.2.2.2.2.1 then
                  (some (((1 : Int), ()), ()))
                  else bif (x.2.1.2.2.2.2.1 != (0 : Int)) then
                    (some (((1 : Int), ()), ()))
                    else bif (x.2.1.1 == (1 : Int)) then
                      (bif (!((x.2.1.2.2.2.1 == (0 : Int)) == (x.2.1.2.2.2.2.1 == (0 : Int)))) then
                        (some (((1 : Int), ()), ()))
                        else bif (!x.2.1.2.2.2.2.2.1) then
                          ((impl_Entry_isZero.F k x.2.1.2.2.2.2.2.2).bind fun y4 =>
                            bif (!y4.1.1) then
                            (some (((1 : Int), ()), ()))
                            else bif (decide ((x.2.1.2.2.2.2.1 > x.2.1.2.2.1))) then
                              (some (((1 : Int), ()), ()))
                              else bif (!x.2.1.2.2.2.2.2.1) then
                                (some (((0 : Int), ()), ()))
                                else (impl_EntryFault.F k x.2.1.2.2.2.2.2.2).bind fun y5 =>
                                  bif (y5.1.1 != (0 : Int)) then
                                  (some y5)
                                  else bif (decide ((x.2.1.2.2.2.2.2.2.1.1 > x.2.1.2.2.1))) then
                                    (some (((1 : Int), ()), ()))
                                    else bif (decide ((x.2.1.2.2.2.2.2.2.1.1 < x.2.1.2.2.2.2.1))) then
                                      (some (((1 : Int), ()), ()))
                                      else some (((0 : Int), ()), ()))
                          else bif (decide ((x.2.1.2.2.2.2.1 > x.2.1.2.2.1))) then
                            (some (((1 : Int), ()), ()))
                            else bif (!x.2.1.2.2.2.2.2.1) then
                              (some (((0 : Int), ()), ()))
                              else (impl_EntryFault.F k x.2.1.2.2.2.2.2.2).bind fun y6 =>
                                bif (y6.1.1 != (0 : Int)) then
                                (some y6)
                                else bif (decide ((x.2.1.2.2.2.2.2.2.1.1 > x.2.1.2.2.1))) then
                                  (some (((1 : Int), ()), ()))
                                  else bif (decide ((x.2.1.2.2.2.2.2.2.1.1 < x.2.1.2.2.2.2.1))) then
                                    (some (((1 : Int), ()), ()))
                                    else some (((0 : Int), ()), ()))
                      else bif (!x.2.1.2.2.2.2.2.1) then
                        ((impl_Entry_isZero.F k x.2.1.2.2.2.2.2.2).bind fun y7 =>
                          bif (!y7.1.1) then
                          (some (((1 : Int), ()), ()))
                          else bif (decide ((x.2.1.2.2.2.2.1 > x.2.1.2.2.1))) then
                            (some (((1 : Int), ()), ()))
                            else bif (!x.2.1.2.2.2.2.2.1) then
                              (some (((0 : Int), ()), ()))
                              else (impl_EntryFault.F k x.2.1.2.2.2.2.2.2).bind fun y8 =>
                                bif (y8.1.1 != (0 : Int)) then
                                (some y8)
                                else bif (decide ((x.2.1.2.2.2.2.2.2.1.1 > x.2.1.2.2.1))) then
                                  (some (((1 : Int), ()), ()))
                                  else bif (decide ((x.2.1.2.2.2.2.2.2.1.1 < x.2.1.2.2.2.2.1))) then
                                    (some (((1 : Int), ()), ()))
                                    else some (((0 : Int), ()), ()))
                        else bif (decide ((x.2.1.2.2.2.2.1 > x.2.1.2.2.1))) then
                          (some (((1 : Int), ()), ()))
                          else bif (!x.2.1.2.2.2.2.2.1) then
                            (some (((0 : Int), ()), ()))
                            else (impl_EntryFault.F k x.2.1.2.2.2.2.2.2).bind fun y9 =>
                              bif (y9.1.1 != (0 : Int)) then
                              (some y9)
                              else bif (decide ((x.2.1.2.2.2.2.2.2.1.1 > x.2.1.2.2.1))) then
                                (some (((1 : Int), ()), ()))
                                else bif (decide ((x.2.1.2.2.2.2.2.2.1.1 < x.2.1.2.2.2.2.1))) then
                                  (some (((1 : Int), ()), ()))
                                  else some (((0 : Int), ()), ()))
                else bif (x.2.1.1 == (1 : Int)) then
                  (bif (!((x.2.1.2.2.2.1 == (0 : Int)) == (x.2.1.2.2.2.2.1 == (0 : Int)))) then
                    (some (((1 : Int), ()), ()))
                    else bif (!x.2.1.2.2.2.2.2.1) then
                      ((impl_Entry_isZero.F k x.2.1.2.2.2.2.2.2).bind fun y10 =>
                        bif (!y10.1.1) then
                        (some (((1 : Int), ()), ()))
                        else bif (decide ((x.2.1.2.2.2.2.1 > x.2.1.2.2.1))) then
                          (some (((1 : Int), ()), ()))
                          else bif (!x.2.1.2.2.2.2.2.1) then
                            (some (((0 : Int), ()), ()))
                            else (impl_EntryFault.F k x.2.1.2.2.2.2.2.2).bind fun y11 =>
                              bif (y11.1.1 != (0 : Int)) then
                              (some y11)
                              else bif (decide ((x.2.1.2.2.2.2.2.2.1.1 > x.2.1.2.2.1))) then
                                (some (((1 : Int), ()), ()))
                                else bif (decide ((x.2.1.2.2.2.2.2.2.1.1 < x.2.1.2.2.2.2.1))) then
                                  (some (((1 : Int), ()), ()))
                                  else some (((0 : Int), ()), ()))
                      else bif (decide ((x.2.1.2.2.2.2.1 > x.2.1.2.2.1))) then
                        (some (((1 : Int), ()), ()))
                        else bif (!x.2.1.2.2.2.2.2.1) then
                          (some (((0 : Int), ()), ()))
                          else (impl_EntryFault.F k x.2.1.2.2.2.2.2.2).bind fun y12 =>
                            bif (y12.1.1 != (0 : Int)) then
                            (some y12)
                            else bif (decide ((x.2.1.2.2.2.2.2.2.1.1 > x.2.1.2.2.1))) then
                              (some (((1 : Int), ()), ()))
                              else bif (decide ((x.2.1.2.2.2.2.2.2.1.1 < x.2.1.2.2.2.2.1))) then
                                (some (((1 : Int), ()), ()))
                                else some (((0 : Int), ()), ()))
                  else bif (!x.2.1.2.2.2.2.2.1) then
                    ((impl_Entry_isZero.F k x.2.1.2.2.2.2.2.2).bind fun y13 =>
                      bif (!y13.1.1) then
                      (some (((1 : Int), ()), ()))
                      else bif (decide ((x.2.1.2.2.2.2.1 > x.2.1.2.2.1))) then
                        (some (((1 : Int), ()), ()))
                        else bif (!x.2.1.2.2.2.2.2.1) then
                          (some (((0 : Int), ()), ()))
                          else (impl_EntryFault.F k x.2.1.2.2.2.2.2.2).bind fun y14 =>
                            bif (y14.1.1 != (0 : Int)) then
                            (some y14)
                            else bif (decide ((x.2.1.2.2.2.2.2.2.1.1 > x.2.1.2.2.1))) then
                              (some (((1 : Int), ()), ()))
                              else bif (decide ((x.2.1.2.2.2.2.2.2.1.1 < x.2.1.2.2.2.2.1))) then
                                (some (((1 : Int), ()), ()))
                                else some (((0 : Int), ()), ()))
                    else bif (decide ((x.2.1.2.2.2.2.1 > x.2.1.2.2.1))) then
                      (some (((1 : Int), ()), ()))
                      else bif (!x.2.1.2.2.2.2.2.1) then
                        (some (((0 : Int), ()), ()))
                        else (impl_EntryFault.F k x.2.1.2.2.2.2.2.2).bind fun y15 =>
                          bif (y15.1.1 != (0 : Int)) then
                          (some y15)
                          else bif (decide ((x.2.1.2.2.2.2.2.2.1.1 > x.2.1.2.2.1))) then
                            (some (((1 : Int), ()), ()))
                            else bif (decide ((x.2.1.2.2.2.2.2.2.1.1 < x.2.1.2.2.2.2.1))) then
                              (some (((1 : Int), ()), ()))
                              else some (((0 : Int), ()), ()))
    else bif (x.2.1.2.1 != x.1.1) then
      (some (((1 : Int), ()), ()))
      else (impl_isEpoch.F k (x.2.1.2.2.1, ())).bind fun y16 =>
        bif (!y16.1.1) then
        (some (((3 : Int), ()), ()))
        else (impl_in.F k (x.2.1.2.2.2.1, (0 : Int), (100 : Int), ())).bind fun y17 =>
          bif (!y17.1.1) then
          (some (((3 : Int), ()), ()))
          else (impl_in.F k (x.2.1.2.2.2.2.1, (0 : Int), (1000 : Int), ())).bind fun y18 =>
            bif (!y18.1.1) then
            (some (((3 : Int), ()), ()))
            else bif (x.2.1.1 == (2 : Int)) then
              (bif x.2.1.2.2.2.2.2.1 then
                (some (((1 : Int), ()), ()))
                else bif (x.2.1.2.2.2.2.1 != (0 : Int)) then
                  (some (((1 : Int), ()), ()))
                  else bif (x.2.1.1 == (1 : Int)) then
                    (bif (!((x.2.1.2.2.2.1 == (0 : Int)) == (x.2.1.2.2.2.2.1 == (0 : Int)))) then
                      (some (((1 : Int), ()), ()))
                      else bif (!x.2.1.2.2.2.2.2.1) then
                        ((impl_Entry_isZero.F k x.2.1.2.2.2.2.2.2).bind fun y19 =>
                          bif (!y19.1.1) then
                          (some (((1 : Int), ()), ()))
                          else bif (decide ((x.2.1.2.2.2.2.1 > x.2.1.2.2.1))) then
                            (some (((1 : Int), ()), ()))
                            else bif (!x.2.1.2.2.2.2.2.1) then
                              (some (((0 : Int), ()), ()))
                              else (impl_EntryFault.F k x.2.1.2.2.2.2.2.2).bind fun y20 =>
                                bif (y20.1.1 != (0 : Int)) then
                                (some y20)
                                else bif (decide ((x.2.1.2.2.2.2.2.2.1.1 > x.2.1.2.2.1))) then
                                  (some (((1 : Int), ()), ()))
                                  else bif (decide ((x.2.1.2.2.2.2.2.2.1.1 < x.2.1.2.2.2.2.1))) then
                                    (some (((1 : Int), ()), ()))
                                    else some (((0 : Int), ()), ()))
                        else bif (decide ((x.2.1.2.2.2.2.1 > x.2.1.2.2.1))) then
                          (some (((1 : Int), ()), ()))
                          else bif (!x.2.1.2.2.2.2.2.1) then
                            (some (((0 : Int), ()), ()))
                            else (impl_EntryFault.F k x.2.1.2.2.2.2.2.2).bind fun y21 =>
                              bif (y21.1.1 != (0 : Int)) then
                              (some y21)
                              else bif (decide ((x.2.1.2.2.2.2.2.2.1.1 > x.2.1.2.2.1))) then
                                (some (((1 : Int), ()), ()))
                                else bif (decide ((x.2.1.2.2.2.2.2.2.1.1 < x.2.1.2.2.2.2.1))) then
                                  (some (((1 : Int), ()), ()))
                                  else some (((0 : Int), ()), ()))
                    else bif (!x.2.1.2.2.2.2.2.1) then
                      ((impl_Entry_isZero.F k x.2.1.2.2.2.2.2.2).bind fun y22 =>
                        bif (!y22.1.1) then
                        (some (((1 : Int), ()), ()))
                        else bif (decide ((x.2.1.2.2.2.2.1 > x.2.1.2.2.1))) then
                          (some (((1 : Int), ()), ()))
                          else bif (!x.2.1.2.2.2.2.2.1) then
                            (some (((0 : Int), ()), ()))
                            else (impl_EntryFault.F k x.2.1.2.2.2.2.2.2).bind fun y23 =>
                              bif (y23.1.1 != (0 : Int)) then
                              (some y23)
                              else bif (decide ((x.2.1.2.2.2.2.2.2.1.1 > x.2.1.2.2.1))) then
                                (some (((1 : Int), ()), ()))
                                else bif (decide ((x.2.1.2.2.2.2.2.2.1.1 < x.2.1.2.2.2.2.1))) then
                                  (some (((1 : Int), ()), ()))
                                  else some (((0 : Int), ()), ()))
                      else bif (decide ((x.2.1.2.2.2.2.1 > x.2.1.2.2.1))) then
                        (some (((1 : Int), ()), ()))
                        else bif (!x.2.1.2.2.2.2.2.1) then
                          (some (((0 : Int), ()), ()))
                          else (impl_EntryFault.F k x.2.1.2.2.2.2.2.2).bind fun y24 =>
                            bif (y24.1.1 != (0 : Int)) then
                            (some y24)
                            else bif (decide ((x.2.1.2.2.2.2.2.2.1.1 > x.2.1.2.2.1))) then
                              (some (((1 : Int), ()), ()))
                              else bif (decide ((x.2.1.2.2.2.2.2.2.1.1 < x.2.1.2.2.2.2.1))) then
                                (some (((1 : Int), ()), ()))
                                else some (((0 : Int), ()), ()))
              else bif (x.2.1.1 == (1 : Int)) then
                (bif (!((x.2.1.2.2.2.1 == (0 : Int)) == (x.2.1.2.2.2.2.1 == (0 : Int)))) then
                  (some (((1 : Int), ()), ()))
                  else bif (!x.2.1.2.2.2.2.2.1) then
                    ((impl_Entry_isZero.F k x.2.1.2.2.2.2.2.2).bind fun y25 =>
                      bif (!y25.1.1) then
                      (some (((1 : Int), ()), ()))
                      else bif (decide ((x.2.1.2.2.2.2.1 > x.2.1.2.2.1))) then
                        (some (((1 : Int), ()), ()))
                        else bif (!x.2.1.2.2.2.2.2.1) then
                          (some (((0 : Int), ()), ()))
                          else (impl_EntryFault.F k x.2.1.2.2.2.2.2.2).bind fun y26 =>
                            bif (y26.1.1 != (0 : Int)) then
                            (some y26)
                            else bif (decide ((x.2.1.2.2.2.2.2.2.1.1 > x.2.1.2.2.1))) then
                              (some (((1 : Int), ()), ()))
                              else bif (decide ((x.2.1.2.2.2.2.2.2.1.1 < x.2.1.2.2.2.2.1))) then
                                (some (((1 : Int), ()), ()))
                                else some (((0 : Int), ()), ()))
                    else bif (decide ((x.2.1.2.2.2.2.1 > x.2.1.2.2.1))) then
                      (some (((1 : Int), ()), ()))
                      else bif (!x.2.1.2.2.2.2.2.1) then
                        (some (((0 : Int), ()), ()))
                        else (impl_EntryFault.F k x.2.1.2.2.2.2.2.2).bind fun y27 =>
                          bif (y27.1.1 != (0 : Int)) then
                          (some y27)
                          else bif (decide ((x.2.1.2.2.2.2.2.2.1.1 > x.2.1.2.2.1))) then
                            (some (((1 : Int), ()), ()))
                            else bif (decide ((x.2.1.2.2.2.2.2.2.1.1 < x.2.1.2.2.2.2.1))) then
                              (some (((1 : Int), ()), ()))
                              else some (((0 : Int), ()), ()))
                else bif (!x.2.1.2.2.2.2.2.1) then
                  ((impl_Entry_isZero.F k x.2.1.2.2.2.2.2.2).bind fun y28 =>
                    bif (!y28.1.1) then
                    (some (((1 : Int), ()), ()))
                    else bif (decide ((x.2.1.2.2.2.2.1 > x.2.1.2.2.1))) then
                      (some (((1 : Int), ()), ()))
                      else bif (!x.2.1.2.2.2.2.2.1) then
                        (some (((0 : Int), ()), ()))
                        else (impl_EntryFault.F k x.2.1.2.2.2.2.2.2).bind fun y29 =>
                          bif (y29.1.1 != (0 : Int)) then
                          (some y29)
                          else bif (decide ((x.2.1.2.2.2.2.2.2.1.1 > x.2.1.2.2.1))) then
                            (some (((1 : Int), ()), ()))
                            else bif (decide ((x.2.1.2.2.2.2.2.2.1.1 < x.2.1.2.2.2.2.1))) then
                              (some (((1 : Int), ()), ()))
                              else some (((0 : Int), ()), ()))
                  else bif (decide ((x.2.1.2.2.2.2.1 > x.2.1.2.2.1))) then
                    (some (((1 : Int), ()), ()))
                    else bif (!x.2.1.2.2.2.2.2.1) then
                      (some (((0 : Int), ()), ()))
                      else (impl_EntryFault.F k x.2.1.2.2.2.2.2.2).bind fun y30 =>
                        bif (y30.1.1 != (0 : Int)) then
                        (some y30)
                        else bif (decide ((x.2.1.2.2.2.2.2.2.1.1 > x.2.1.2.2.1))) then
                          (some (((1 : Int), ()), ()))
                          else bif (decide ((x.2.1.2.2.2.2.2.2.1.1 < x.2.1.2.2.2.2.1))) then
                            (some (((1 : Int), ()), ()))
                            else some (((0 : Int), ()), ())
def impl_MailFault.hd : Hints := ⟨[], [(0, [3])], [4], [0, 1, 2, 3, 5, 6], []⟩
def impl_MailFault.lps (k : Nat) : List (Nat × Lp impl_MailFault.sg.Out) := []
theorem impl_MailFault.loops (k : Nat) : LoopsOk impl_MailFault.E k impl_MailFault.hd (impl_MailFault.lps k) (loopsOf (Go.Proofs.Tryz.f65.body.getD .skip)) := trivial
theorem impl_MailFault.den (k : Nat) (x : Sig.In impl_MailFault.sg.ps) : denFn impl_MailFault.E k Go.Proofs.Tryz.f65 impl_MailFault.sg impl_MailFault.hd (runL k impl_MailFault.hd (impl_MailFault.lps k)) x = impl_MailFault.F k x := by kernel_rfl
theorem impl_MailFault.ok (k : Nat) : Contract Tryz.prog 65 impl_MailFault.sg (impl_MailFault.F k) := ok_of (E := impl_MailFault.E) (tysOk _ _) (eqsOk _) ⟨impl_NodeFault.ok k, impl_EntryFault.ok k, impl_in.ok k, impl_isEpoch.ok k, impl_Entry_isZero.ok k, trivial⟩ Tryz.func65 rfl (by kernel_rfl) (impl_MailFault.loops k) (impl_MailFault.den k)
def impl_PairFault.sg : Sig := ⟨[.b kPair], [((.int .i64), .rd)]⟩
def impl_PairFault.E : Env := ⟨tys, bys, [(61, ⟨impl_SettingsFault.sg, impl_SettingsFault.F⟩), (62, ⟨impl_NodeFault.sg, impl_NodeFault.F⟩), (63, ⟨impl_WireFault.sg, impl_WireFault.F⟩), (64, ⟨impl_isNode.sg, impl_isNode.F⟩), (65, ⟨impl_MailFault.sg, impl_MailFault.F⟩), (66, ⟨impl_EntryFault.sg, impl_EntryFault.F⟩)], eqs⟩
def impl_PairFault.l7 {ρ : Type} (k : Nat) (c0 : (Int × Unit) → Option ρ) (c1 : (Int × (Int × (Int × (Int × (List ((Int × (Int × Unit)) × (Int × (Int × (Int × (Bool × (Int × (Int × Unit))))))) × (List ((Int × (Int × Unit)) × (Int × (Int × (Int × (Bool × (Int × (Int × Unit))))))) × (List (Int × (Bool × (Int × (Int × ((List (Int × ((Int × (Int × ((List Int) × Unit))) × Unit))) × (Int × (Int × (Int × (Int × Unit))))))))) × (List (Int × ((List Int) × (Int × ((List Int) × Unit)))) × (List (Int × (Int × (Int × (Int × (Int × (Bool × ((Int × ((Int × (Int × ((List Int) × Unit))) × Unit)) × Unit))))))) × (List (Int × ((Int × (Int × ((List Int) × Unit))) × Unit)) × Unit)))))))))) → Option ρ) : Nat → List (Int × (Bool × (Int × (Int × ((List (Int × ((Int × (Int × ((List Int) × Unit))) × Unit))) × (Int × (Int × (Int × (Int × Unit))))))))) → Int → Int → Int → Int → Int → Int → List ((Int × (Int × Unit)) × (Int × (Int × (Int × (Bool × (Int × (Int × Unit))))))) → List ((Int × (Int × Unit)) × (Int × (Int × (Int × (Bool × (Int × (Int × Unit))))))) → List (Int × (Bool × (Int × (Int × ((List (Int × ((Int × (Int × ((List Int) × Unit))) × Unit))) × (Int × (Int × (Int × (Int × Unit))))))))) → List (Int × ((List Int) × (Int × ((List Int) × Unit)))) → List (Int × (Int × (Int × (Int × (Int × (Bool × ((Int × ((Int × (Int × ((List Int) × Unit))) × Unit)) × Unit))))))) → List (Int × ((Int × (Int × ((List Int) × Unit))) × Unit)) → Option ρ
  | 0 => fun _ _ _ _ _ _ _ _ _ _ _ _ _ => none
  | n + 1 => fun x0 x1 x2 x3 x4 x5 x6 x7 x8 x9 x10 x11 x12 => 
    bif (decide ((x2 < x1))) then
    (bif (Go.Dn.inB x2 (((List.length x0) : Nat) : Int)) then
      (Go.Dn.share (List.getD x0 (Int.toNat x2) ((0 : Int), (false, ((0 : Int), ((0 : Int), (([] : List (Int × ((Int × (Int × ((List Int) × Unit))) × Unit))), ((0 : Int), ((0 : Int), ((0 : Int), ((0 : Int), ())))))))))) fun s1 =>
        (impl_NodeFault.F k (s1, ())).bind fun y2 =>
        bif (y2.1.1 != (0 : Int)) then
        (c0 (y2.1.1, ()))
        else bif (s1.1 != x2) then
          (c0 ((1 : Int), ()))
          else impl_PairFault.l7 k c0 c1 n x0 x1 (IntKind.wrap .i64 (x2 + (1 : Int))) x3 x4 x5 x6 x7 x8 x9 x10 x11 x12)
      else none)
    else c1 (x3, x4, x5, x6, x7, x8, x9, x10, x11, x12, ())
def impl_PairFault.l16 {ρ : Type} (k : Nat) (c0 : (Int × Unit) → Option ρ) (c1 : (Int × (Int × (Int × (Int × (List ((Int × (Int × Unit)) × (Int × (Int × (Int × (Bool × (Int × (Int × Unit))))))) × (List ((Int × (Int × Unit)) × (Int × (Int × (Int × (Bool × (Int × (Int × Unit))))))) × (List (Int × (Bool × (Int × (Int × ((List (Int × ((Int × (Int × ((List Int) × Unit))) × Unit))) × (Int × (Int × (Int × (Int × Unit))))))))) × (List (Int × ((List Int) × (Int × ((List Int) × Unit)))) × (List (Int × (Int × (Int × (Int × (Int × (Bool × ((Int × ((Int × (Int × ((List Int) × Unit))) × Unit)) × Unit))))))) × (List (Int × ((Int × (Int × ((List Int) × Unit))) × Unit)) × Unit)))))))))) → Option ρ) : Nat → List (Int × ((List Int) × (Int × ((List Int) × Unit)))) → Int → Int → Int → Int → Int → Int → List ((Int × (Int × Unit)) × (Int × (Int × (Int × (Bool × (Int × (Int × Unit))))))) → List ((Int × (Int × Unit)) × (Int × (Int × (Int × (Bool × (Int × (Int × Unit))))))) → List (Int × (Bool × (Int × (Int × ((List (Int × ((Int × (Int × ((List Int) × Unit))) × Unit))) × (Int × (Int × (Int × (Int × Unit))))))))) → List (Int × ((List Int) × (Int × ((List Int) × Unit)))) → List (Int × (Int × (Int × (Int × (Int × (Bool × ((Int × ((Int × (Int × ((List Int) × Unit))) × Unit)) × Unit))))))) → List (Int × ((Int × (Int × ((List Int) × Unit))) × Unit)) → Option ρ
  | 0 => fun _ _ _ _ _ _ _ _ _ _ _ _ _ => none
  | n + 1 => fun x0 x1 x2 x3 x4 x5 x6 x7 x8 x9 x10 x11 x12 => 
    bif (decide ((x2 < x1))) then
    (bif (Go.Dn.inB x2 (((List.length x0) : Nat) : Int)) then
      (Go.Dn.share (List.getD x0 (Int.toNat x2) ((0 : Int), (([] : List Int), ((0 : Int), (([] : List Int), ()))))) fun s5 =>
        (impl_WireFault.F k (s5, ())).bind fun y6 =>
        bif (y6.1.1 != (0 : Int)) then
        (c0 (y6.1.1, ()))
        else impl_PairFault.l16 k c0 c1 n x0 x1 (IntKind.wrap .i64 (x2 + (1 : Int))) x3 x4 x5 x6 x7 x8 x9 x10 x11 x12)
      else none)
    else c1 (x3, x4, x5, x6, x7, x8, x9, x10, x11, x12, ())
def impl_PairFault.l25 {ρ : Type} (k : Nat) (c0 : (Int × Unit) → Option ρ) (c1 : (Int × (Int × (Int × (Int × (List ((Int × (Int × Unit)) × (Int × (Int × (Int × (Bool × (Int × (Int × Unit))))))) × (List ((Int × (Int × Unit)) × (Int × (Int × (Int × (Bool × (Int × (Int × Unit))))))) × (List (Int × (Bool × (Int × (Int × ((List (Int × ((Int × (Int × ((List Int) × Unit))) × Unit))) × (Int × (Int × (Int × (Int × Unit))))))))) × (List (Int × ((List Int) × (Int × ((List Int) × Unit)))) × (List (Int × (Int × (Int × (Int × (Int × (Bool × ((Int × ((Int × (Int × ((List Int) × Unit))) × Unit)) × Unit))))))) × (List (Int × ((Int × (Int × ((List Int) × Unit))) × Unit)) × Unit)))))))))) → Option ρ) : Nat → List (Int × (Int × (Int × (Int × (Int × (Bool × ((Int × ((Int × (Int × ((List Int) × Unit))) × Unit)) × Unit))))))) → Int → Int → Int → Int → Int → Int → List ((Int × (Int × Unit)) × (Int × (Int × (Int × (Bool × (Int × (Int × Unit))))))) → List ((Int × (Int × Unit)) × (Int × (Int × (Int × (Bool × (Int × (Int × Unit))))))) → List (Int × (Bool × (Int × (Int × ((List (Int × ((Int × (Int × ((List Int) × Unit))) × Unit))) × (Int × (Int × (Int × (Int × Unit))))))))) → List (Int × ((List Int) × (Int × ((List Int) × Unit)))) → List (Int × (Int × (Int × (Int × (Int × (Bool × ((Int × ((Int × (Int × ((List Int) × Unit))) × Unit)) × Unit))))))) → List (Int × ((Int × (Int × ((List Int) × Unit))) × Unit)) → Option ρ
  | 0 => fun _ _ _ _ _ _ _ _ _ _ _ _ _ => none
  | n + 1 => fun x0 x1 x2 x3 x4 x5 x6 x7 x8 x9 x10 x11 x12 => 
    bif (decide ((x2 < x1))) then
    (bif (Go.Dn.inB x2 (((List.length x0) : Nat) : Int)) then
      (Go.Dn.share (List.getD x0 (Int.toNat x2) ((0 : Int), ((0 : Int), ((0 : Int), ((0 : Int), ((0 : Int), (false, (((0 : Int), (((0 : Int), ((0 : Int), (([] : List Int), ()))), ())), ())))))))) fun s9 =>
        (impl_isNode.F k (s9.2.1, ())).bind fun y10 =>
        bif (!y10.1.1) then
        (c0 ((1 : Int), ()))
        else bif (Go.Dn.inB s9.2.1 (((List.length x9) : Nat) : Int)) then
          (Go.Dn.share (List.getD x9 (Int.toNat s9.2.1) ((0 : Int), (false, ((0 : Int), ((0 : Int), (([] : List (Int × ((Int × (Int × ((List Int) × Unit))) × Unit))), ((0 : Int), ((0 : Int), ((0 : Int), ((0 : Int), ())))))))))) fun s11 =>
            (impl_MailFault.F k (s11, s9, ())).bind fun y12 =>
            bif (y12.1.1 != (0 : Int)) then
            (c0 (y12.1.1, ()))
            else impl_PairFault.l25 k c0 c1 n x0 x1 (IntKind.wrap .i64 (x2 + (1 : Int))) x3 x4 x5 x6 x7 x8 x9 x10 x11 x12)
          else none)
      else none)
    else c1 (x3, x4, x5, x6, x7, x8, x9, x10, x11, x12, ())
def impl_PairFault.l36 {ρ : Type} (k : Nat) (c0 : (Int × Unit) → Option ρ) (c1 : Unit → Option ρ) : Nat → List (Int × ((Int × (Int × ((List Int) × Unit))) × Unit)) → Int → Int → Option ρ
  | 0 => fun _ _ _ => none
  | n + 1 => fun x0 x1 x2 => 
    bif (decide ((x2 < x1))) then
    (bif (Go.Dn.inB x2 (((List.length x0) : Nat) : Int)) then
      (Go.Dn.share (List.getD x0 (Int.toNat x2) ((0 : Int), (((0 : Int), ((0 : Int), (([] : List Int), ()))), ()))) fun s15 =>
        (impl_EntryFault.F k (s15, ())).bind fun y16 =>
        bif (y16.1.1 != (0 : Int)) then
        (c0 (y16.1.1, ()))
        else impl_PairFault.l36 k c0 c1 n x0 x1 (IntKind.wrap .i64 (x2 + (1 : Int))))
      else none)
    else c1 (())
def impl_PairFault.F (k : Nat) (x : ((((Int × (Int × (Int × Unit))) × (Int × ((List ((Int × (Int × Unit)) × (Int × (Int × (Int × (Bool × (Int × (Int × Unit)))))))) × ((List ((Int × (Int × Unit)) × (Int × (Int × (Int × (Bool × (Int × (Int × Unit)))))))) × Unit)))) × ((List (Int × (Bool × (Int × (Int × ((List (Int × ((Int × (Int × ((List Int) × Unit))) × Unit))) × (Int × (Int × (Int × (Int × Unit)))))))))) × ((List (Int × ((List Int) × (Int × ((List Int) × Unit))))) × ((List (Int × (Int × (Int × (Int × (Int × (Bool × ((Int × ((Int × (Int × ((List Int) × Unit))) × Unit)) × Unit)))))))) × ((List (Int × ((Int × (Int × ((List Int) × Unit))) × Unit))) × Unit))))) × Unit)) : Option ((Int × Unit) × Unit) :=
  (impl_SettingsFault.F k (x.1.1, ())).bind fun y0 =>
  bif (y0.1.1 != (0 : Int)) then
  (some y0)
  else bif ((((List.length x.1.2.1) : Nat) : Int) != (2 : Int)) then
    (some (((1 : Int), ()), ()))
    else bif ((((List.length x.1.2.2.1) : Nat) : Int) != (3 : Int)) then
      (some (((1 : Int), ()), ()))
      else impl_PairFault.l7 k (fun e3 =>
          some (e3, ())) (fun e4 =>
          impl_PairFault.l16 k (fun e7 =>
            some (e7, ())) (fun e8 =>
            bif (decide (((((List.length e8.2.2.2.2.2.2.2.2.1) : Nat) : Int) > (40 : Int)))) then
            (some (((2 : Int), ()), ()))
            else impl_PairFault.l25 k (fun e13 =>
                some (e13, ())) (fun e14 =>
                bif (decide (((((List.length e14.2.2.2.2.2.2.2.2.2.1) : Nat) : Int) > (100 : Int)))) then
                (some (((2 : Int), ()), ()))
                else impl_PairFault.l36 k (fun e17 =>
                    some (e17, ())) (fun e18 =>
                    some (((0 : Int), ()), ())) k e14.2.2.2.2.2.2.2.2.2.1 (((List.length e14.2.2.2.2.2.2.2.2.2.1) : Nat) : Int) (0 : Int)) k e8.2.2.2.2.2.2.2.2.1 (((List.length e8.2.2.2.2.2.2.2.2.1) : Nat) : Int) (0 : Int) e8.1 e8.2.1 e8.2.2.1 e8.2.2.2.1 e8.2.2.2.2.1 e8.2.2.2.2.2.1 e8.2.2.2.2.2.2.1 e8.2.2.2.2.2.2.2.1 e8.2.2.2.2.2.2.2.2.1 e8.2.2.2.2.2.2.2.2.2.1) k e4.2.2.2.2.2.2.2.1 (((List.length e4.2.2.2.2.2.2.2.1) : Nat) : Int) (0 : Int) e4.1 e4.2.1 e4.2.2.1 e4.2.2.2.1 e4.2.2.2.2.1 e4.2.2.2.2.2.1 e4.2.2.2.2.2.2.1 e4.2.2.2.2.2.2.2.1 e4.2.2.2.2.2.2.2.2.1 e4.2.2.2.2.2.2.2.2.2.1) k x.1.2.1 (((List.length x.1.2.1) : Nat) : Int) (0 : Int) x.1.1.1.1 x.1.1.1.2.1 x.1.1.1.2.2.1 x.1.1.2.1 x.1.1.2.2.1 x.1.1.2.2.2.1 x.1.2.1 x.1.2.2.1 x.1.2.2.2.1 x.1.2.2.2.2.1
def impl_PairFault.hd : Hints := ⟨[(7, ⟨[1, 33, 34, 35], []⟩), (16, ⟨[1, 51, 52, 53], []⟩), (25, ⟨[1, 68, 69, 70], []⟩), (36, ⟨[95, 96, 97], []⟩)], [(0, [1]), (1, [1, 33, 34, 35]), (2, [1]), (3, [1, 51, 52, 53]), (4, [1]), (5, [1, 68, 69, 70]), (6, []), (7, [95, 96, 97])], [2], [0, 1, 3, 4, 5, 6, 8, 9, 11, 12, 14, 15, 33, 34, 35, 51, 52, 53, 68, 69, 70, 95, 96, 97], [(29, [0, 1, 0, 4, 15, 31, 0, 127, 255])]⟩
def impl_PairFault.lps (k : Nat) : List (Nat × Lp impl_PairFault.sg.Out) := [(7, ⟨[.l kNode, .i, .i, .i, .i, .i, .i, .l kRule, .l kRule, .l kNode, .l kWire, .l kMail, .l kEntry], fun x => (fun x0 x1 x2 x3 x4 x5 x6 x7 x8 x9 x10 x11 x12 => ⟨[(1, .v false [.box 0 0]), (33, .v false [.fz kNode x0]), (34, .v false [.int .i64 x1]), (35, .v false [.int .i64 x2])], [(0, .box [.int .i64 x3, .int .i64 x4, .int .i64 x5, .int .i64 x6, .fz kRule x7, .fz kRule x8, .fz kNode x9, .fz kWire x10, .fz kMail x11, .fz kEntry x12])], []⟩) x.1 x.2.1 x.2.2.1 x.2.2.2.1 x.2.2.2.2.1 x.2.2.2.2.2.1 x.2.2.2.2.2.2.1 x.2.2.2.2.2.2.2.1 x.2.2.2.2.2.2.2.2.1 x.2.2.2.2.2.2.2.2.2.1 x.2.2.2.2.2.2.2.2.2.2.1 x.2.2.2.2.2.2.2.2.2.2.2.1 x.2.2.2.2.2.2.2.2.2.2.2.2.1, fun C n x => impl_PairFault.l7 k (fun y => C .ret ((fun y0 => ⟨[(2, .v false [.int .i64 y0])], [], []⟩) y.1)) (fun y => C (.exit 0) ((fun y0 y1 y2 y3 y4 y5 y6 y7 y8 y9 => ⟨[(1, .v false [.box 0 0])], [(0, .box [.int .i64 y0, .int .i64 y1, .int .i64 y2, .int .i64 y3, .fz kRule y4, .fz kRule y5, .fz kNode y6, .fz kWire y7, .fz kMail y8, .fz kEntry y9])], []⟩) y.1 y.2.1 y.2.2.1 y.2.2.2.1 y.2.2.2.2.1 y.2.2.2.2.2.1 y.2.2.2.2.2.2.1 y.2.2.2.2.2.2.2.1 y.2.2.2.2.2.2.2.2.1 y.2.2.2.2.2.2.2.2.2.1)) n x.1 x.2.1 x.2.2.1 x.2.2.2.1 x.2.2.2.2.1 x.2.2.2.2.2.1 x.2.2.2.2.2.2.1 x.2.2.2.2.2.2.2.1 x.2.2.2.2.2.2.2.2.1 x.2.2.2.2.2.2.2.2.2.1 x.2.2.2.2.2.2.2.2.2.2.1 x.2.2.2.2.2.2.2.2.2.2.2.1 x.2.2.2.2.2.2.2.2.2.2.2.2.1⟩),
  (16, ⟨[.l kWire, .i, .i, .i, .i, .i, .i, .l kRule, .l kRule, .l kNode, .l kWire, .l kMail, .l kEntry], fun x => (fun x0 x1 x2 x3 x4 x5 x6 x7 x8 x9 x10 x11 x12 => ⟨[(1, .v false [.box 0 0]), (51, .v false [.fz kWire x0]), (52, .v false [.int .i64 x1]), (53, .v false [.int .i64 x2])], [(0, .box [.int .i64 x3, .int .i64 x4, .int .i64 x5, .int .i64 x6, .fz kRule x7, .fz kRule x8, .fz kNode x9, .fz kWire x10, .fz kMail x11, .fz kEntry x12])], []⟩) x.1 x.2.1 x.2.2.1 x.2.2.2.1 x.2.2.2.2.1 x.2.2.2.2.2.1 x.2.2.2.2.2.2.1 x.2.2.2.2.2.2.2.1 x.2.2.2.2.2.2.2.2.1 x.2.2.2.2.2.2.2.2.2.1 x.2.2.2.2.2.2.2.2.2.2.1 x.2.2.2.2.2.2.2.2.2.2.2.1 x.2.2.2.2.2.2.2.2.2.2.2.2.1, fun C n x => impl_PairFault.l16 k (fun y => C .ret ((fun y0 => ⟨[(2, .v false [.int .i64 y0])], [], []⟩) y.1)) (fun y => C (.exit 2) ((fun y0 y1 y2 y3 y4 y5 y6 y7 y8 y9 => ⟨[(1, .v false [.box 0 0])], [(0, .box [.int .i64 y0, .int .i64 y1, .int .i64 y2, .int .i64 y3, .fz kRule y4, .fz kRule y5, .fz kNode y6, .fz kWire y7, .fz kMail y8, .fz kEntry y9])], []⟩) y.1 y.2.1 y.2.2.1 y.2.2.2.1 y.2.2.2.2.1 y.2.2.2.2.2.1 y.2.2.2.2.2.2.1 y.2.2.2.2.2.2.2.1 y.2.2.2.2.2.2.2.2.1 y.2.2.2.2.2.2.2.2.2.1)) n x.1 x.2.1 x.2.2.1 x.2.2.2.1 x.2.2.2.2.1 x.2.2.2.2.2.1 x.2.2.2.2.2.2.1 x.2.2.2.2.2.2.2.1 x.2.2.2.2.2.2.2.2.1 x.2.2.2.2.2.2.2.2.2.1 x.2.2.2.2.2.2.2.2.2.2.1 x.2.2.2.2.2.2.2.2.2.2.2.1 x.2.2.2.2.2.2.2.2.2.2.2.2.1⟩),
  (25, ⟨[.l kMail, .i, .i, .i, .i, .i, .i, .l kRule, .l kRule, .l kNode, .l kWire, .l kMail, .l kEntry], fun x => (fun x0 x1 x2 x3 x4 x5 x6 x7 x8 x9 x10 x11 x12 => ⟨[(1, .v false [.box 0 0]), (68, .v false [.fz kMail x0]), (69, .v false [.int .i64 x1]), (70, .v false [.int .i64 x2])], [(0, .box [.int .i64 x3, .int .i64 x4, .int .i64 x5, .int .i64 x6, .fz kRule x7, .fz kRule x8, .fz kNode x9, .fz kWire x10, .fz kMail x11, .fz kEntry x12])], []⟩) x.1 x.2.1 x.2.2.1 x.2.2.2.1 x.2.2.2.2.1 x.2.2.2.2.2.1 x.2.2.2.2.2.2.1 x.2.2.2.2.2.2.2.1 x.2.2.2.2.2.2.2.2.1 x.2.2.2.2.2.2.2.2.2.1 x.2.2.2.2.2.2.2.2.2.2.1 x.2.2.2.2.2.2.2.2.2.2.2.1 x.2.2.2.2.2.2.2.2.2.2.2.2.1, fun C n x => impl_PairFault.l25 k (fun y => C .ret ((fun y0 => ⟨[(2, .v false [.int .i64 y0])], [], []⟩) y.1)) (fun y => C (.exit 4) ((fun y0 y1 y2 y3 y4 y5 y6 y7 y8 y9 => ⟨[(1, .v false [.box 0 0])], [(0, .box [.int .i64 y0, .int .i64 y1, .int .i64 y2, .int .i64 y3, .fz kRule y4, .fz kRule y5, .fz kNode y6, .fz kWire y7, .fz kMail y8, .fz kEntry y9])], []⟩) y.1 y.2.1 y.2.2.1 y.2.2.2.1 y.2.2.2.2.1 y.2.2.2.2.2.1 y.2.2.2.2.2.2.1 y.2.2.2.2.2.2.2.1 y.2.2.2.2.2.2.2.2.1 y.2.2.2.2.2.2.2.2.2.1)) n x.1 x.2.1 x.2.2.1 x.2.2.2.1 x.2.2.2.2.1 x.2.2.2.2.2.1 x.2.2.2.2.2.2.1 x.2.2.2.2.2.2.2.1 x.2.2.2.2.2.2.2.2.1 x.2.2.2.2.2.2.2.2.2.1 x.2.2.2.2.2.2.2.2.2.2.1 x.2.2.2.2.2.2.2.2.2.2.2.1 x.2.2.2.2.2.2.2.2.2.2.2.2.1⟩),
  (36, ⟨[.l kEntry, .i, .i], fun x => (fun x0 x1 x2 => ⟨[(95, .v false [.fz kEntry x0]), (96, .v false [.int .i64 x1]), (97, .v false [.int .i64 x2])], [], []⟩) x.1 x.2.1 x.2.2.1, fun C n x => impl_PairFault.l36 k (fun y => C .ret ((fun y0 => ⟨[(2, .v false [.int .i64 y0])], [], []⟩) y.1)) (fun _ => C (.exit 6) ⟨[], [], []⟩) n x.1 x.2.1 x.2.2.1⟩)]
theorem impl_PairFault.loops (k : Nat) : LoopsOk impl_PairFault.E k impl_PairFault.hd (impl_PairFault.lps k) (loopsOf (Go.Proofs.Tryz.f30.body.getD .skip)) := ⟨⟨fun _ _ => rfl, fun _ _ _ => by kernel_rfl, fun _ => ⟨rfl, rfl⟩⟩, ⟨⟨fun _ _ => rfl, fun _ _ _ => by kernel_rfl, fun _ => ⟨rfl, rfl⟩⟩, ⟨⟨fun _ _ => rfl, fun _ _ _ => by kernel_rfl, fun _ => ⟨rfl, rfl⟩⟩, ⟨⟨fun _ _ => rfl, fun _ _ _ => by kernel_rfl, fun _ => ⟨rfl, rfl⟩⟩, trivial⟩⟩⟩⟩
theorem impl_PairFault.den (k : Nat) (x : Sig.In impl_PairFault.sg.ps) : denFn impl_PairFault.E k Go.Proofs.Tryz.f30 impl_PairFault.sg impl_PairFault.hd (runL k impl_PairFault.hd (impl_PairFault.lps k)) x = impl_PairFault.F k x := by kernel_rfl
theorem impl_PairFault.ok (k : Nat) : Contract Tryz.prog 30 impl_PairFault.sg (impl_PairFault.F k) := ok_of (E := impl_PairFault.E) (tysOk _ _) (eqsOk _) ⟨impl_SettingsFault.ok k, impl_NodeFault.ok k, impl_WireFault.ok k, impl_isNode.ok k, impl_MailFault.ok k, impl_EntryFault.ok k, trivial⟩ Tryz.func30 rfl (by kernel_rfl) (impl_PairFault.loops k) (impl_PairFault.den k)
def laws_eqConfig.sg : Sig := ⟨[.b kConfig, .b kConfig], [(.bool, .rd)]⟩
def laws_eqConfig.E : Env := ⟨tys, bys, [], eqs⟩
def laws_eqConfig.F (k : Nat) (x : ((Int × (Int × (Int × Unit))) × ((Int × (Int × (Int × Unit))) × Unit))) : Option ((Bool × Unit) × Unit) :=
  bif (x.1.1 != x.2.1.1) then
  (some ((false, ()), ()))
  else bif (x.1.2.1 != x.2.1.2.1) then
    (some ((false, ()), ()))
    else bif (x.1.2.2.1 != x.2.1.2.2.1) then
      (some ((false, ()), ()))
      else some ((true, ()), ())
def laws_eqConfig.hd : Hints := ⟨[], [], [4], [0, 1, 2, 3], []⟩
def laws_eqConfig.lps (k : Nat) : List (Nat × Lp laws_eqConfig.sg.Out) := []
theorem laws_eqConfig.loops (k : Nat) : LoopsOk laws_eqConfig.E k laws_eqConfig.hd (laws_eqConfig.lps k) (loopsOf (Go.Proofs.Tryz.f70.body.getD .skip)) := trivial
theorem laws_eqConfig.den (k : Nat) (x : Sig.In laws_eqConfig.sg.ps) : denFn laws_eqConfig.E k Go.Proofs.Tryz.f70 laws_eqConfig.sg laws_eqConfig.hd (runL k laws_eqConfig.hd (laws_eqConfig.lps k)) x = laws_eqConfig.F k x := by kernel_rfl
theorem laws_eqConfig.ok (k : Nat) : Contract Tryz.prog 70 laws_eqConfig.sg (laws_eqConfig.F k) := ok_of (E := laws_eqConfig.E) (tysOk _ _) (eqsOk _) trivial Tryz.func70 rfl (by kernel_rfl) (laws_eqConfig.loops k) (laws_eqConfig.den k)
def laws_eqPrefix.sg : Sig := ⟨[.b kPrefix, .b kPrefix], [(.bool, .rd)]⟩
def laws_eqPrefix.E : Env := ⟨tys, bys, [], eqs⟩
def laws_eqPrefix.F (k : Nat) (x : ((Int × (Int × Unit)) × ((Int × (Int × Unit)) × Unit))) : Option ((Bool × Unit) × Unit) :=
  bif (x.1.1 != x.2.1.1) then
  (some ((false, ()), ()))
  else bif (x.1.2.1 != x.2.1.2.1) then
    (some ((false, ()), ()))
    else some ((true, ()), ())
def laws_eqPrefix.hd : Hints := ⟨[], [], [4], [0, 1, 2, 3], []⟩
def laws_eqPrefix.lps (k : Nat) : List (Nat × Lp laws_eqPrefix.sg.Out) := []
theorem laws_eqPrefix.loops (k : Nat) : LoopsOk laws_eqPrefix.E k laws_eqPrefix.hd (laws_eqPrefix.lps k) (loopsOf (Go.Proofs.Tryz.f125.body.getD .skip)) := trivial
theorem laws_eqPrefix.den (k : Nat) (x : Sig.In laws_eqPrefix.sg.ps) : denFn laws_eqPrefix.E k Go.Proofs.Tryz.f125 laws_eqPrefix.sg laws_eqPrefix.hd (runL k laws_eqPrefix.hd (laws_eqPrefix.lps k)) x = laws_eqPrefix.F k x := by kernel_rfl
theorem laws_eqPrefix.ok (k : Nat) : Contract Tryz.prog 125 laws_eqPrefix.sg (laws_eqPrefix.F k) := ok_of (E := laws_eqPrefix.E) (tysOk _ _) (eqsOk _) trivial Tryz.func125 rfl (by kernel_rfl) (laws_eqPrefix.loops k) (laws_eqPrefix.den k)
def laws_eqRule.sg : Sig := ⟨[.b kRule, .b kRule], [(.bool, .rd)]⟩
def laws_eqRule.E : Env := ⟨tys, bys, [(125, ⟨laws_eqPrefix.sg, laws_eqPrefix.F⟩)], eqs⟩
def laws_eqRule.F (k : Nat) (x : (((Int × (Int × Unit)) × (Int × (Int × (Int × (Bool × (Int × (Int × Unit))))))) × (((Int × (Int × Unit)) × (Int × (Int × (Int × (Bool × (Int × (Int × Unit))))))) × Unit))) : Option ((Bool × Unit) × Unit) :=
  (laws_eqPrefix.F k (x.1.1, x.2.1.1, ())).bind fun y0 =>
  bif (!y0.1.1) then
  (some ((false, ()), ()))
  else bif (x.1.2.1 != x.2.1.2.1) then
    (some ((false, ()), ()))
    else bif (x.1.2.2.1 != x.2.1.2.2.1) then
      (some ((false, ()), ()))
      else bif (x.1.2.2.2.1 != x.2.1.2.2.2.1) then
        (some ((false, ()), ()))
        else bif (!(x.1.2.2.2.2.1 == x.2.1.2.2.2.2.1)) then
          (some ((false, ()), ()))
          else bif (x.1.2.2.2.2.2.1 != x.2.1.2.2.2.2.2.1) then
            (some ((false, ()), ()))
            else bif (x.1.2.2.2.2.2.2.1 != x.2.1.2.2.2.2.2.2.1) then
              (some ((false, ()), ()))
              else some ((true, ()), ())
def laws_eqRule.hd : Hints := ⟨[], [], [4], [0, 1, 2, 3], []⟩
def laws_eqRule.lps (k : Nat) : List (Nat × Lp laws_eqRule.sg.Out) := []
theorem laws_eqRule.loops (k : Nat) : LoopsOk laws_eqRule.E k laws_eqRule.hd (laws_eqRule.lps k) (loopsOf (Go.Proofs.Tryz.f109.body.getD .skip)) := trivial
theorem laws_eqRule.den (k : Nat) (x : Sig.In laws_eqRule.sg.ps) : denFn laws_eqRule.E k Go.Proofs.Tryz.f109 laws_eqRule.sg laws_eqRule.hd (runL k laws_eqRule.hd (laws_eqRule.lps k)) x = laws_eqRule.F k x := by kernel_rfl
theorem laws_eqRule.ok (k : Nat) : Contract Tryz.prog 109 laws_eqRule.sg (laws_eqRule.F k) := ok_of (E := laws_eqRule.E) (tysOk _ _) (eqsOk _) ⟨laws_eqPrefix.ok k, trivial⟩ Tryz.func109 rfl (by kernel_rfl) (laws_eqRule.loops k) (laws_eqRule.den k)
def laws_eqRuleS.sg : Sig := ⟨[.b (.sl kRule), .b (.sl kRule)], [(.bool, .rd)]⟩
def laws_eqRuleS.E : Env := ⟨tys, bys, [(109, ⟨laws_eqRule.sg, laws_eqRule.F⟩)], eqs⟩
def laws_eqRuleS.l4 {ρ : Type} (k : Nat) (c0 : (Bool × Unit) → Option ρ) (c1 : Unit → Option ρ) : Nat → List ((Int × (Int × Unit)) × (Int × (Int × (Int × (Bool × (Int × (Int × Unit))))))) → List ((Int × (Int × Unit)) × (Int × (Int × (Int × (Bool × (Int × (Int × Unit))))))) → Int → Option ρ
  | 0 => fun _ _ _ => none
  | n + 1 => fun x0 x1 x2 => 
    bif (decide ((x2 < (((List.length x0) : Nat) : Int)))) then
    (bif (Go.Dn.inB x2 (((List.length x0) : Nat) : Int)) then
      (Go.Dn.share (List.getD x0 (Int.toNat x2) (((0 : Int), ((0 : Int), ())), ((0 : Int), ((0 : Int), ((0 : Int), (false, ((0 : Int), ((0 : Int), ())))))))) fun s0 =>
        bif (Go.Dn.inB x2 (((List.length x1) : Nat) : Int)) then
        (Go.Dn.share (List.getD x1 (Int.toNat x2) (((0 : Int), ((0 : Int), ())), ((0 : Int), ((0 : Int), ((0 : Int), (false, ((0 : Int), ((0 : Int), ())))))))) fun s1 =>
          (laws_eqRule.F k (s0, s1, ())).bind fun y2 =>
          bif (!y2.1.1) then
          (c0 (false, ()))
          else laws_eqRuleS.l4 k c0 c1 n x0 x1 (IntKind.wrap .i64 (x2 + (1 : Int))))
        else none)
      else none)
    else c1 (())
def laws_eqRuleS.F (k : Nat) (x : ((List ((Int × (Int × Unit)) × (Int × (Int × (Int × (Bool × (Int × (Int × Unit)))))))) × ((List ((Int × (Int × Unit)) × (Int × (Int × (Int × (Bool × (Int × (Int × Unit)))))))) × Unit))) : Option ((Bool × Unit) × Unit) :=
  bif ((((List.length x.1) : Nat) : Int) != (((List.length x.2.1) : Nat) : Int)) then
  (some ((false, ()), ()))
  else laws_eqRuleS.l4 k (fun e3 =>
      some (e3, ())) (fun e4 =>
      some ((true, ()), ())) k x.1 x.2.1 (0 : Int)
def laws_eqRuleS.hd : Hints := ⟨[(4, ⟨[0, 1, 5], []⟩)], [(0, []), (1, [0, 1, 5])], [4], [0, 1, 5], [(6, [0, 0, 3, 7, 0, 0, 48, 112, 255, 511])]⟩
def laws_eqRuleS.lps (k : Nat) : List (Nat × Lp laws_eqRuleS.sg.Out) := [(4, ⟨[.l kRule, .l kRule, .i], fun x => (fun x0 x1 x2 => ⟨[(0, .v false [.fz kRule x0]), (1, .v false [.fz kRule x1]), (5, .v false [.int .i64 x2])], [], []⟩) x.1 x.2.1 x.2.2.1, fun C n x => laws_eqRuleS.l4 k (fun y => C .ret ((fun y0 => ⟨[(4, .v false [.bool y0])], [], []⟩) y.1)) (fun _ => C (.exit 0) ⟨[], [], []⟩) n x.1 x.2.1 x.2.2.1⟩)]
theorem laws_eqRuleS.loops (k : Nat) : LoopsOk laws_eqRuleS.E k laws_eqRuleS.hd (laws_eqRuleS.lps k) (loopsOf (Go.Proofs.Tryz.f71.body.getD .skip)) := ⟨⟨fun _ _ => rfl, fun _ _ _ => by kernel_rfl, fun _ => ⟨rfl, rfl⟩⟩, trivial⟩
theorem laws_eqRuleS.den (k : Nat) (x : Sig.In laws_eqRuleS.sg.ps) : denFn laws_eqRuleS.E k Go.Proofs.Tryz.f71 laws_eqRuleS.sg laws_eqRuleS.hd (runL k laws_eqRuleS.hd (laws_eqRuleS.lps k)) x = laws_eqRuleS.F k x := by kernel_rfl
theorem laws_eqRuleS.ok (k : Nat) : Contract Tryz.prog 71 laws_eqRuleS.sg (laws_eqRuleS.F k) := ok_of (E := laws_eqRuleS.E) (tysOk _ _) (eqsOk _) ⟨laws_eqRule.ok k, trivial⟩ Tryz.func71 rfl (by kernel_rfl) (laws_eqRuleS.loops k) (laws_eqRuleS.den k)
def laws_eqSettings.sg : Sig := ⟨[.b kSettings, .b kSettings], [(.bool, .rd)]⟩
def laws_eqSettings.E : Env := ⟨tys, bys, [(70, ⟨laws_eqConfig.sg, laws_eqConfig.F⟩), (71, ⟨laws_eqRuleS.sg, laws_eqRuleS.F⟩)], eqs⟩
def laws_eqSettings.F (k : Nat) (x : (((Int × (Int × (Int × Unit))) × (Int × ((List ((Int × (Int × Unit)) × (Int × (Int × (Int × (Bool × (Int × (Int × Unit)))))))) × ((List ((Int × (Int × Unit)) × (Int × (Int × (Int × (Bool × (Int × (Int × Unit)))))))) × Unit)))) × (((Int × (Int × (Int × Unit))) × (Int × ((List ((Int × (Int × Unit)) × (Int × (Int × (Int × (Bool × (Int × (Int × Unit)))))))) × ((List ((Int × (Int × Unit)) × (Int × (Int × (Int × (Bool × (Int × (Int × Unit)))))))) × Unit)))) × Unit))) : Option ((Bool × Unit) × Unit) :=
  (laws_eqConfig.F k (x.1.1, x.2.1.1, ())).bind fun y0 =>
  bif (!y0.1.1) then
  (some ((false, ()), ()))
  else bif (x.1.2.1 != x.2.1.2.1) then
    (some ((false, ()), ()))
    else (laws_eqRuleS.F k (x.1.2.2.1, x.2.1.2.2.1, ())).bind fun y1 =>
      bif (!y1.1.1) then
      (some ((false, ()), ()))
      else (laws_eqRuleS.F k (x.1.2.2.2.1, x.2.1.2.2.2)).bind fun y2 =>
        bif (!y2.1.1) then
        (some ((false, ()), ()))
        else some ((true, ()), ())
def laws_eqSettings.hd : Hints := ⟨[], [], [4], [0, 1, 2, 3], []⟩
def laws_eqSettings.lps (k : Nat) : List (Nat × Lp laws_eqSettings.sg.Out) := []
theorem laws_eqSettings.loops (k : Nat) : LoopsOk laws_eqSettings.E k laws_eqSettings.hd (laws_eqSettings.lps k) (loopsOf (Go.Proofs.Tryz.f32.body.getD .skip)) := trivial
theorem laws_eqSettings.den (k : Nat) (x : Sig.In laws_eqSettings.sg.ps) : denFn laws_eqSettings.E k Go.Proofs.Tryz.f32 laws_eqSettings.sg laws_eqSettings.hd (runL k laws_eqSettings.hd (laws_eqSettings.lps k)) x = laws_eqSettings.F k x := by kernel_rfl
theorem laws_eqSettings.ok (k : Nat) : Contract Tryz.prog 32 laws_eqSettings.sg (laws_eqSettings.F k) := ok_of (E := laws_eqSettings.E) (tysOk _ _) (eqsOk _) ⟨laws_eqConfig.ok k, laws_eqRuleS.ok k, trivial⟩ Tryz.func32 rfl (by kernel_rfl) (laws_eqSettings.loops k) (laws_eqSettings.den k)
def laws_eqByteS.sg : Sig := ⟨[.b (.sl (.int .u8)), .b (.sl (.int .u8))], [(.bool, .rd)]⟩
def laws_eqByteS.E : Env := ⟨tys, bys, [], eqs⟩
def laws_eqByteS.l4 {ρ : Type} (k : Nat) (c0 : (Bool × Unit) → Option ρ) (c1 : Unit → Option ρ) : Nat → List Int → List Int → Int → Option ρ
  | 0 => fun _ _ _ => none
  | n + 1 => fun x0 x1 x2 => 
    bif (decide ((x2 < (((List.length x0) : Nat) : Int)))) then
    (bif (Go.Dn.inB x2 (((List.length x0) : Nat) : Int)) then
      (Go.Dn.share (List.getD x0 (Int.toNat x2) (0 : Int)) fun s0 =>
        bif (Go.Dn.inB x2 (((List.length x1) : Nat) : Int)) then
        (Go.Dn.share (List.getD x1 (Int.toNat x2) (0 : Int)) fun s1 =>
          bif (s0 != s1) then
          (c0 (false, ()))
          else laws_eqByteS.l4 k c0 c1 n x0 x1 (IntKind.wrap .i64 (x2 + (1 : Int))))
        else none)
      else none)
    else c1 (())
def laws_eqByteS.F (k : Nat) (x : ((List Int) × ((List Int) × Unit))) : Option ((Bool × Unit) × Unit) :=
  bif ((((List.length x.1) : Nat) : Int) != (((List.length x.2.1) : Nat) : Int)) then
  (some ((false, ()), ()))
  else laws_eqByteS.l4 k (fun e2 =>
      some (e2, ())) (fun e3 =>
      some ((true, ()), ())) k x.1 x.2.1 (0 : Int)
def laws_eqByteS.hd : Hints := ⟨[(4, ⟨[0, 1, 5], []⟩)], [(0, []), (1, [0, 1, 5])], [4], [0, 1, 5], [(6, [0, 0, 3, 7, 0, 0, 48, 112, 255])]⟩
def laws_eqByteS.lps (k : Nat) : List (Nat × Lp laws_eqByteS.sg.Out) := [(4, ⟨[.l (.int .u8), .l (.int .u8), .i], fun x => (fun x0 x1 x2 => ⟨[(0, .v false [.fz (.int .u8) x0]), (1, .v false [.fz (.int .u8) x1]), (5, .v false [.int .i64 x2])], [], []⟩) x.1 x.2.1 x.2.2.1, fun C n x => laws_eqByteS.l4 k (fun y => C .ret ((fun y0 => ⟨[(4, .v false [.bool y0])], [], []⟩) y.1)) (fun _ => C (.exit 0) ⟨[], [], []⟩) n x.1 x.2.1 x.2.2.1⟩)]
theorem laws_eqByteS.loops (k : Nat) : LoopsOk laws_eqByteS.E k laws_eqByteS.hd (laws_eqByteS.lps k) (loopsOf (Go.Proofs.Tryz.f110.body.getD .skip)) := ⟨⟨fun _ _ => rfl, fun _ _ _ => by kernel_rfl, fun _ => ⟨rfl, rfl⟩⟩, trivial⟩
theorem laws_eqByteS.den (k : Nat) (x : Sig.In laws_eqByteS.sg.ps) : denFn laws_eqByteS.E k Go.Proofs.Tryz.f110 laws_eqByteS.sg laws_eqByteS.hd (runL k laws_eqByteS.hd (laws_eqByteS.lps k)) x = laws_eqByteS.F k x := by kernel_rfl
theorem laws_eqByteS.ok (k : Nat) : Contract Tryz.prog 110 laws_eqByteS.sg (laws_eqByteS.F k) := ok_of (E := laws_eqByteS.E) (tysOk _ _) (eqsOk _) trivial Tryz.func110 rfl (by kernel_rfl) (laws_eqByteS.loops k) (laws_eqByteS.den k)
def laws_eqEvent.sg : Sig := ⟨[.b kEvent, .b kEvent], [(.bool, .rd)]⟩
def laws_eqEvent.E : Env := ⟨tys, bys, [(110, ⟨laws_eqByteS.sg, laws_eqByteS.F⟩)], eqs⟩
def laws_eqEvent.F (k : Nat) (x : ((Int × (Int × ((List Int) × Unit))) × ((Int × (Int × ((List Int) × Unit))) × Unit))) : Option ((Bool × Unit) × Unit) :=
  bif (x.1.1 != x.2.1.1) then
  (some ((false, ()), ()))
  else bif (x.1.2.1 != x.2.1.2.1) then
    (some ((false, ()), ()))
    else (laws_eqByteS.F k (x.1.2.2.1, x.2.1.2.2)).bind fun y0 =>
      bif (!y0.1.1) then
      (some ((false, ()), ()))
      else some ((true, ()), ())
def laws_eqEvent.hd : Hints := ⟨[], [], [4], [0, 1, 2, 3], []⟩
def laws_eqEvent.lps (k : Nat) : List (Nat × Lp laws_eqEvent.sg.Out) := []
theorem laws_eqEvent.loops (k : Nat) : LoopsOk laws_eqEvent.E k laws_eqEvent.hd (laws_eqEvent.lps k) (loopsOf (Go.Proofs.Tryz.f111.body.getD .skip)) := trivial
theorem laws_eqEvent.den (k : Nat) (x : Sig.In laws_eqEvent.sg.ps) : denFn laws_eqEvent.E k Go.Proofs.Tryz.f111 laws_eqEvent.sg laws_eqEvent.hd (runL k laws_eqEvent.hd (laws_eqEvent.lps k)) x = laws_eqEvent.F k x := by kernel_rfl
theorem laws_eqEvent.ok (k : Nat) : Contract Tryz.prog 111 laws_eqEvent.sg (laws_eqEvent.F k) := ok_of (E := laws_eqEvent.E) (tysOk _ _) (eqsOk _) ⟨laws_eqByteS.ok k, trivial⟩ Tryz.func111 rfl (by kernel_rfl) (laws_eqEvent.loops k) (laws_eqEvent.den k)
def laws_eqEntry.sg : Sig := ⟨[.b kEntry, .b kEntry], [(.bool, .rd)]⟩
def laws_eqEntry.E : Env := ⟨tys, bys, [(111, ⟨laws_eqEvent.sg, laws_eqEvent.F⟩)], eqs⟩
def laws_eqEntry.F (k : Nat) (x : ((Int × ((Int × (Int × ((List Int) × Unit))) × Unit)) × ((Int × ((Int × (Int × ((List Int) × Unit))) × Unit)) × Unit))) : Option ((Bool × Unit) × Unit) :=
  bif (x.1.1 != x.2.1.1) then
  (some ((false, ()), ()))
  else (laws_eqEvent.F k (x.1.2.1, x.2.1.2)).bind fun y0 =>
    bif (!y0.1.1) then
    (some ((false, ()), ()))
    else some ((true, ()), ())
def laws_eqEntry.hd : Hints := ⟨[], [], [4], [0, 1, 2, 3], []⟩
def laws_eqEntry.lps (k : Nat) : List (Nat × Lp laws_eqEntry.sg.Out) := []
theorem laws_eqEntry.loops (k : Nat) : LoopsOk laws_eqEntry.E k laws_eqEntry.hd (laws_eqEntry.lps k) (loopsOf (Go.Proofs.Tryz.f75.body.getD .skip)) := trivial
theorem laws_eqEntry.den (k : Nat) (x : Sig.In laws_eqEntry.sg.ps) : denFn laws_eqEntry.E k Go.Proofs.Tryz.f75 laws_eqEntry.sg laws_eqEntry.hd (runL k laws_eqEntry.hd (laws_eqEntry.lps k)) x = laws_eqEntry.F k x := by kernel_rfl
theorem laws_eqEntry.ok (k : Nat) : Contract Tryz.prog 75 laws_eqEntry.sg (laws_eqEntry.F k) := ok_of (E := laws_eqEntry.E) (tysOk _ _) (eqsOk _) ⟨laws_eqEvent.ok k, trivial⟩ Tryz.func75 rfl (by kernel_rfl) (laws_eqEntry.loops k) (laws_eqEntry.den k)
def laws_eqEntryS.sg : Sig := ⟨[.b (.sl kEntry), .b (.sl kEntry)], [(.bool, .rd)]⟩
def laws_eqEntryS.E : Env := ⟨tys, bys, [(75, ⟨laws_eqEntry.sg, laws_eqEntry.F⟩)], eqs⟩
def laws_eqEntryS.l4 {ρ : Type} (k : Nat) (c0 : (Bool × Unit) → Option ρ) (c1 : Unit → Option ρ) : Nat → List (Int × ((Int × (Int × ((List Int) × Unit))) × Unit)) → List (Int × ((Int × (Int × ((List Int) × Unit))) × Unit)) → Int → Option ρ
  | 0 => fun _ _ _ => none
  | n + 1 => fun x0 x1 x2 => 
    bif (decide ((x2 < (((List.length x0) : Nat) : Int)))) then
    (bif (Go.Dn.inB x2 (((List.length x0) : Nat) : Int)) then
      (Go.Dn.share (List.getD x0 (Int.toNat x2) ((0 : Int), (((0 : Int), ((0 : Int), (([] : List Int), ()))), ()))) fun s0 =>
        bif (Go.Dn.inB x2 (((List.length x1) : Nat) : Int)) then
        (Go.Dn.share (List.getD x1 (Int.toNat x2) ((0 : Int), (((0 : Int), ((0 : Int), (([] : List Int), ()))), ()))) fun s1 =>
          (laws_eqEntry.F k (s0, s1, ())).bind fun y2 =>
          bif (!y2.1.1) then
          (c0 (false, ()))
          else laws_eqEntryS.l4 k c0 c1 n x0 x1 (IntKind.wrap .i64 (x2 + (1 : Int))))
        else none)
      else none)
    else c1 (())
def laws_eqEntryS.F (k : Nat) (x : ((List (Int × ((Int × (Int × ((List Int) × Unit))) × Unit))) × ((List (Int × ((Int × (Int × ((List Int) × Unit))) × Unit))) × Unit))) : Option ((Bool × Unit) × Unit) :=
  bif ((((List.length x.1) : Nat) : Int) != (((List.length x.2.1) : Nat) : Int)) then
  (some ((false, ()), ()))
  else laws_eqEntryS.l4 k (fun e3 =>
      some (e3, ())) (fun e4 =>
      some ((true, ()), ())) k x.1 x.2.1 (0 : Int)
def laws_eqEntryS.hd : Hints := ⟨[(4, ⟨[0, 1, 5], []⟩)], [(0, []), (1, [0, 1, 5])], [4], [0, 1, 5], [(6, [0, 0, 3, 7, 0, 0, 48, 112, 255, 511])]⟩
def laws_eqEntryS.lps (k : Nat) : List (Nat × Lp laws_eqEntryS.sg.Out) := [(4, ⟨[.l kEntry, .l kEntry, .i], fun x => (fun x0 x1 x2 => ⟨[(0, .v false [.fz kEntry x0]), (1, .v false [.fz kEntry x1]), (5, .v false [.int .i64 x2])], [], []⟩) x.1 x.2.1 x.2.2.1, fun C n x => laws_eqEntryS.l4 k (fun y => C .ret ((fun y0 => ⟨[(4, .v false [.bool y0])], [], []⟩) y.1)) (fun _ => C (.exit 0) ⟨[], [], []⟩) n x.1 x.2.1 x.2.2.1⟩)]
theorem laws_eqEntryS.loops (k : Nat) : LoopsOk laws_eqEntryS.E k laws_eqEntryS.hd (laws_eqEntryS.lps k) (loopsOf (Go.Proofs.Tryz.f36.body.getD .skip)) := ⟨⟨fun _ _ => rfl, fun _ _ _ => by kernel_rfl, fun _ => ⟨rfl, rfl⟩⟩, trivial⟩
theorem laws_eqEntryS.den (k : Nat) (x : Sig.In laws_eqEntryS.sg.ps) : denFn laws_eqEntryS.E k Go.Proofs.Tryz.f36 laws_eqEntryS.sg laws_eqEntryS.hd (runL k laws_eqEntryS.hd (laws_eqEntryS.lps k)) x = laws_eqEntryS.F k x := by kernel_rfl
theorem laws_eqEntryS.ok (k : Nat) : Contract Tryz.prog 36 laws_eqEntryS.sg (laws_eqEntryS.F k) := ok_of (E := laws_eqEntryS.E) (tysOk _ _) (eqsOk _) ⟨laws_eqEntry.ok k, trivial⟩ Tryz.func36 rfl (by kernel_rfl) (laws_eqEntryS.loops k) (laws_eqEntryS.den k)
def laws_eqNode.sg : Sig := ⟨[.b kNode, .b kNode], [(.bool, .rd)]⟩
def laws_eqNode.E : Env := ⟨tys, bys, [(36, ⟨laws_eqEntryS.sg, laws_eqEntryS.F⟩)], eqs⟩
def laws_eqNode.F (k : Nat) (x : ((Int × (Bool × (Int × (Int × ((List (Int × ((Int × (Int × ((List Int) × Unit))) × Unit))) × (Int × (Int × (Int × (Int × Unit))))))))) × ((Int × (Bool × (Int × (Int × ((List (Int × ((Int × (Int × ((List Int) × Unit))) × Unit))) × (Int × (Int × (Int × (Int × Unit))))))))) × Unit))) : Option ((Bool × Unit) × Unit) :=
  bif (x.1.1 != x.2.1.1) then
  (some ((false, ()), ()))
  else bif (!(x.1.2.1 == x.2.1.2.1)) then
    (some ((false, ()), ()))
    else bif (x.1.2.2.1 != x.2.1.2.2.1) then
      (some ((false, ()), ()))
      else bif (x.1.2.2.2.1 != x.2.1.2.2.2.1) then
        (some ((false, ()), ()))
        else (laws_eqEntryS.F k (x.1.2.2.2.2.1, x.2.1.2.2.2.2.1, ())).bind fun y0 =>
          bif (!y0.1.1) then
          (some ((false, ()), ()))
          else bif (x.1.2.2.2.2.2.1 != x.2.1.2.2.2.2.2.1) then
            (some ((false, ()), ()))
            else bif (x.1.2.2.2.2.2.2.1 != x.2.1.2.2.2.2.2.2.1) then
              (some ((false, ()), ()))
              else bif (x.1.2.2.2.2.2.2.2.1 != x.2.1.2.2.2.2.2.2.2.1) then
                (some ((false, ()), ()))
                else bif (x.1.2.2.2.2.2.2.2.2.1 != x.2.1.2.2.2.2.2.2.2.2.1) then
                  (some ((false, ()), ()))
                  else some ((true, ()), ())
def laws_eqNode.hd : Hints := ⟨[], [], [4], [0, 1, 2, 3], []⟩
def laws_eqNode.lps (k : Nat) : List (Nat × Lp laws_eqNode.sg.Out) := []
theorem laws_eqNode.loops (k : Nat) : LoopsOk laws_eqNode.E k laws_eqNode.hd (laws_eqNode.lps k) (loopsOf (Go.Proofs.Tryz.f72.body.getD .skip)) := trivial
theorem laws_eqNode.den (k : Nat) (x : Sig.In laws_eqNode.sg.ps) : denFn laws_eqNode.E k Go.Proofs.Tryz.f72 laws_eqNode.sg laws_eqNode.hd (runL k laws_eqNode.hd (laws_eqNode.lps k)) x = laws_eqNode.F k x := by kernel_rfl
theorem laws_eqNode.ok (k : Nat) : Contract Tryz.prog 72 laws_eqNode.sg (laws_eqNode.F k) := ok_of (E := laws_eqNode.E) (tysOk _ _) (eqsOk _) ⟨laws_eqEntryS.ok k, trivial⟩ Tryz.func72 rfl (by kernel_rfl) (laws_eqNode.loops k) (laws_eqNode.den k)
def laws_eqNodeS.sg : Sig := ⟨[.b (.sl kNode), .b (.sl kNode)], [(.bool, .rd)]⟩
def laws_eqNodeS.E : Env := ⟨tys, bys, [(72, ⟨laws_eqNode.sg, laws_eqNode.F⟩)], eqs⟩
def laws_eqNodeS.l4 {ρ : Type} (k : Nat) (c0 : (Bool × Unit) → Option ρ) (c1 : Unit → Option ρ) : Nat → List (Int × (Bool × (Int × (Int × ((List (Int × ((Int × (Int × ((List Int) × Unit))) × Unit))) × (Int × (Int × (Int × (Int × Unit))))))))) → List (Int × (Bool × (Int × (Int × ((List (Int × ((Int × (Int × ((List Int) × Unit))) × Unit))) × (Int × (Int × (Int × (Int × Unit))))))))) → Int → Option ρ
  | 0 => fun _ _ _ => none
  | n + 1 => fun x0 x1 x2 => 
    bif (decide ((x2 < (((List.length x0) : Nat) : Int)))) then
    (bif (Go.Dn.inB x2 (((List.length x0) : Nat) : Int)) then
      (Go.Dn.share (List.getD x0 (Int.toNat x2) ((0 : Int), (false, ((0 : Int), ((0 : Int), (([] : List (Int × ((Int × (Int × ((List Int) × Unit))) × Unit))), ((0 : Int), ((0 : Int), ((0 : Int), ((0 : Int), ())))))))))) fun s0 =>
        bif (Go.Dn.inB x2 (((List.length x1) : Nat) : Int)) then
        (Go.Dn.share (List.getD x1 (Int.toNat x2) ((0 : Int), (false, ((0 : Int), ((0 : Int), (([] : List (Int × ((Int × (Int × ((List Int) × Unit))) × Unit))), ((0 : Int), ((0 : Int), ((0 : Int), ((0 : Int), ())))))))))) fun s1 =>
          (laws_eqNode.F k (s0, s1, ())).bind fun y2 =>
          bif (!y2.1.1) then
          (c0 (false, ()))
          else laws_eqNodeS.l4 k c0 c1 n x0 x1 (IntKind.wrap .i64 (x2 + (1 : Int))))
        else none)
      else none)
    else c1 (())
def laws_eqNodeS.F (k : Nat) (x : ((List (Int × (Bool × (Int × (Int × ((List (Int × ((Int × (Int × ((List Int) × Unit))) × Unit))) × (Int × (Int × (Int × (Int × Unit)))))))))) × ((List (Int × (Bool × (Int × (Int × ((List (Int × ((Int × (Int × ((List Int) × Unit))) × Unit))) × (Int × (Int × (Int × (Int × Unit)))))))))) × Unit))) : Option ((Bool × Unit) × Unit) :=
  bif ((((List.length x.1) : Nat) : Int) != (((List.length x.2.1) : Nat) : Int)) then
  (some ((false, ()), ()))
  else laws_eqNodeS.l4 k (fun e3 =>
      some (e3, ())) (fun e4 =>
      some ((true, ()), ())) k x.1 x.2.1 (0 : Int)
def laws_eqNodeS.hd : Hints := ⟨[(4, ⟨[0, 1, 5], []⟩)], [(0, []), (1, [0, 1, 5])], [4], [0, 1, 5], [(6, [0, 0, 3, 7, 0, 0, 48, 112, 255, 511])]⟩
def laws_eqNodeS.lps (k : Nat) : List (Nat × Lp laws_eqNodeS.sg.Out) := [(4, ⟨[.l kNode, .l kNode, .i], fun x => (fun x0 x1 x2 => ⟨[(0, .v false [.fz kNode x0]), (1, .v false [.fz kNode x1]), (5, .v false [.int .i64 x2])], [], []⟩) x.1 x.2.1 x.2.2.1, fun C n x => laws_eqNodeS.l4 k (fun y => C .ret ((fun y0 => ⟨[(4, .v false [.bool y0])], [], []⟩) y.1)) (fun _ => C (.exit 0) ⟨[], [], []⟩) n x.1 x.2.1 x.2.2.1⟩)]
theorem laws_eqNodeS.loops (k : Nat) : LoopsOk laws_eqNodeS.E k laws_eqNodeS.hd (laws_eqNodeS.lps k) (loopsOf (Go.Proofs.Tryz.f33.body.getD .skip)) := ⟨⟨fun _ _ => rfl, fun _ _ _ => by kernel_rfl, fun _ => ⟨rfl, rfl⟩⟩, trivial⟩
theorem laws_eqNodeS.den (k : Nat) (x : Sig.In laws_eqNodeS.sg.ps) : denFn laws_eqNodeS.E k Go.Proofs.Tryz.f33 laws_eqNodeS.sg laws_eqNodeS.hd (runL k laws_eqNodeS.hd (laws_eqNodeS.lps k)) x = laws_eqNodeS.F k x := by kernel_rfl
theorem laws_eqNodeS.ok (k : Nat) : Contract Tryz.prog 33 laws_eqNodeS.sg (laws_eqNodeS.F k) := ok_of (E := laws_eqNodeS.E) (tysOk _ _) (eqsOk _) ⟨laws_eqNode.ok k, trivial⟩ Tryz.func33 rfl (by kernel_rfl) (laws_eqNodeS.loops k) (laws_eqNodeS.den k)
def laws_eqWire.sg : Sig := ⟨[.b kWire, .b kWire], [(.bool, .rd)]⟩
def laws_eqWire.E : Env := ⟨tys, bys, [(110, ⟨laws_eqByteS.sg, laws_eqByteS.F⟩)], eqs⟩
def laws_eqWire.F (k : Nat) (x : ((Int × ((List Int) × (Int × ((List Int) × Unit)))) × ((Int × ((List Int) × (Int × ((List Int) × Unit)))) × Unit))) : Option ((Bool × Unit) × Unit) :=
  bif (x.1.1 != x.2.1.1) then
  (some ((false, ()), ()))
  else (laws_eqByteS.F k (x.1.2.1, x.2.1.2.1, ())).bind fun y0 =>
    bif (!y0.1.1) then
    (some ((false, ()), ()))
    else bif (x.1.2.2.1 != x.2.1.2.2.1) then
      (some ((false, ()), ()))
      else (laws_eqByteS.F k (x.1.2.2.2.1, x.2.1.2.2.2)).bind fun y1 =>
        bif (!y1.1.1) then
        (some ((false, ()), ()))
        else some ((true, ()), ())
def laws_eqWire.hd : Hints := ⟨[], [], [4], [0, 1, 2, 3], []⟩
def laws_eqWire.lps (k : Nat) : List (Nat × Lp laws_eqWire.sg.Out) := []
theorem laws_eqWire.loops (k : Nat) : LoopsOk laws_eqWire.E k laws_eqWire.hd (laws_eqWire.lps k) (loopsOf (Go.Proofs.Tryz.f73.body.getD .skip)) := trivial
theorem laws_eqWire.den (k : Nat) (x : Sig.In laws_eqWire.sg.ps) : denFn laws_eqWire.E k Go.Proofs.Tryz.f73 laws_eqWire.sg laws_eqWire.hd (runL k laws_eqWire.hd (laws_eqWire.lps k)) x = laws_eqWire.F k x := by kernel_rfl
theorem laws_eqWire.ok (k : Nat) : Contract Tryz.prog 73 laws_eqWire.sg (laws_eqWire.F k) := ok_of (E := laws_eqWire.E) (tysOk _ _) (eqsOk _) ⟨laws_eqByteS.ok k, trivial⟩ Tryz.func73 rfl (by kernel_rfl) (laws_eqWire.loops k) (laws_eqWire.den k)
def laws_eqWireS.sg : Sig := ⟨[.b (.sl kWire), .b (.sl kWire)], [(.bool, .rd)]⟩
def laws_eqWireS.E : Env := ⟨tys, bys, [(73, ⟨laws_eqWire.sg, laws_eqWire.F⟩)], eqs⟩
def laws_eqWireS.l4 {ρ : Type} (k : Nat) (c0 : (Bool × Unit) → Option ρ) (c1 : Unit → Option ρ) : Nat → List (Int × ((List Int) × (Int × ((List Int) × Unit)))) → List (Int × ((List Int) × (Int × ((List Int) × Unit)))) → Int → Option ρ
  | 0 => fun _ _ _ => none
  | n + 1 => fun x0 x1 x2 => 
    bif (decide ((x2 < (((List.length x0) : Nat) : Int)))) then
    (bif (Go.Dn.inB x2 (((List.length x0) : Nat) : Int)) then
      (Go.Dn.share (List.getD x0 (Int.toNat x2) ((0 : Int), (([] : List Int), ((0 : Int), (([] : List Int), ()))))) fun s0 =>
        bif (Go.Dn.inB x2 (((List.length x1) : Nat) : Int)) then
        (Go.Dn.share (List.getD x1 (Int.toNat x2) ((0 : Int), (([] : List Int), ((0 : Int), (([] : List Int), ()))))) fun s1 =>
          (laws_eqWire.F k (s0, s1, ())).bind fun y2 =>
          bif (!y2.1.1) then
          (c0 (false, ()))
          else laws_eqWireS.l4 k c0 c1 n x0 x1 (IntKind.wrap .i64 (x2 + (1 : Int))))
        else none)
      else none)
    else c1 (())
def laws_eqWireS.F (k : Nat) (x : ((List (Int × ((List Int) × (Int × ((List Int) × Unit))))) × ((List (Int × ((List Int) × (Int × ((List Int) × Unit))))) × Unit))) : Option ((Bool × Unit) × Unit) :=
  bif ((((List.length x.1) : Nat) : Int) != (((List.length x.2.1) : Nat) : Int)) then
  (some ((false, ()), ()))
  else laws_eqWireS.l4 k (fun e3 =>
      some (e3, ())) (fun e4 =>
      some ((true, ()), ())) k x.1 x.2.1 (0 : Int)
def laws_eqWireS.hd : Hints := ⟨[(4, ⟨[0, 1, 5], []⟩)], [(0, []), (1, [0, 1, 5])], [4], [0, 1, 5], [(6, [0, 0, 3, 7, 0, 0, 48, 112, 255, 511])]⟩
def laws_eqWireS.lps (k : Nat) : List (Nat × Lp laws_eqWireS.sg.Out) := [(4, ⟨[.l kWire, .l kWire, .i], fun x => (fun x0 x1 x2 => ⟨[(0, .v false [.fz kWire x0]), (1, .v false [.fz kWire x1]), (5, .v false [.int .i64 x2])], [], []⟩) x.1 x.2.1 x.2.2.1, fun C n x => laws_eqWireS.l4 k (fun y => C .ret ((fun y0 => ⟨[(4, .v false [.bool y0])], [], []⟩) y.1)) (fun _ => C (.exit 0) ⟨[], [], []⟩) n x.1 x.2.1 x.2.2.1⟩)]
theorem laws_eqWireS.loops (k : Nat) : LoopsOk laws_eqWireS.E k laws_eqWireS.hd (laws_eqWireS.lps k) (loopsOf (Go.Proofs.Tryz.f34.body.getD .skip)) := ⟨⟨fun _ _ => rfl, fun _ _ _ => by kernel_rfl, fun _ => ⟨rfl, rfl⟩⟩, trivial⟩
theorem laws_eqWireS.den (k : Nat) (x : Sig.In laws_eqWireS.sg.ps) : denFn laws_eqWireS.E k Go.Proofs.Tryz.f34 laws_eqWireS.sg laws_eqWireS.hd (runL k laws_eqWireS.hd (laws_eqWireS.lps k)) x = laws_eqWireS.F k x := by kernel_rfl
theorem laws_eqWireS.ok (k : Nat) : Contract Tryz.prog 34 laws_eqWireS.sg (laws_eqWireS.F k) := ok_of (E := laws_eqWireS.E) (tysOk _ _) (eqsOk _) ⟨laws_eqWire.ok k, trivial⟩ Tryz.func34 rfl (by kernel_rfl) (laws_eqWireS.loops k) (laws_eqWireS.den k)
def laws_eqMail.sg : Sig := ⟨[.b kMail, .b kMail], [(.bool, .rd)]⟩
def laws_eqMail.E : Env := ⟨tys, bys, [(75, ⟨laws_eqEntry.sg, laws_eqEntry.F⟩)], eqs⟩
def laws_eqMail.F (k : Nat) (x : ((Int × (Int × (Int × (Int × (Int × (Bool × ((Int × ((Int × (Int × ((List Int) × Unit))) × Unit)) × Unit))))))) × ((Int × (Int × (Int × (Int × (Int × (Bool × ((Int × ((Int × (Int × ((List Int) × Unit))) × Unit)) × Unit))))))) × Unit))) : Option ((Bool × Unit) × Unit) :=
  bif (x.1.1 != x.2.1.1) then
  (some ((false, ()), ()))
  else bif (x.1.2.1 != x.2.1.2.1) then
    (some ((false, ()), ()))
    else bif (x.1.2.2.1 != x.2.1.2.2.1) then
      (some ((false, ()), ()))
      else bif (x.1.2.2.2.1 != x.2.1.2.2.2.1) then
        (some ((false, ()), ()))
        else bif (x.1.2.2.2.2.1 != x.2.1.2.2.2.2.1) then
          (some ((false, ()), ()))
          else bif (!(x.1.2.2.2.2.2.1 == x.2.1.2.2.2.2.2.1)) then
            (some ((false, ()), ()))
            else (laws_eqEntry.F k (x.1.2.2.2.2.2.2.1, x.2.1.2.2.2.2.2.2)).bind fun y0 =>
              bif (!y0.1.1) then
              (some ((false, ()), ()))
              else some ((true, ()), ())
def laws_eqMail.hd : Hints := ⟨[], [], [4], [0, 1, 2, 3], []⟩
def laws_eqMail.lps (k : Nat) : List (Nat × Lp laws_eqMail.sg.Out) := []
theorem laws_eqMail.loops (k : Nat) : LoopsOk laws_eqMail.E k laws_eqMail.hd (laws_eqMail.lps k) (loopsOf (Go.Proofs.Tryz.f74.body.getD .skip)) := trivial
theorem laws_eqMail.den (k : Nat) (x : Sig.In laws_eqMail.sg.ps) : denFn laws_eqMail.E k Go.Proofs.Tryz.f74 laws_eqMail.sg laws_eqMail.hd (runL k laws_eqMail.hd (laws_eqMail.lps k)) x = laws_eqMail.F k x := by kernel_rfl
theorem laws_eqMail.ok (k : Nat) : Contract Tryz.prog 74 laws_eqMail.sg (laws_eqMail.F k) := ok_of (E := laws_eqMail.E) (tysOk _ _) (eqsOk _) ⟨laws_eqEntry.ok k, trivial⟩ Tryz.func74 rfl (by kernel_rfl) (laws_eqMail.loops k) (laws_eqMail.den k)
def laws_eqMailS.sg : Sig := ⟨[.b (.sl kMail), .b (.sl kMail)], [(.bool, .rd)]⟩
def laws_eqMailS.E : Env := ⟨tys, bys, [(74, ⟨laws_eqMail.sg, laws_eqMail.F⟩)], eqs⟩
def laws_eqMailS.l4 {ρ : Type} (k : Nat) (c0 : (Bool × Unit) → Option ρ) (c1 : Unit → Option ρ) : Nat → List (Int × (Int × (Int × (Int × (Int × (Bool × ((Int × ((Int × (Int × ((List Int) × Unit))) × Unit)) × Unit))))))) → List (Int × (Int × (Int × (Int × (Int × (Bool × ((Int × ((Int × (Int × ((List Int) × Unit))) × Unit)) × Unit))))))) → Int → Option ρ
  | 0 => fun _ _ _ => none
  | n + 1 => fun x0 x1 x2 => 
    bif (decide ((x2 < (((List.length x0) : Nat) : Int)))) then
    (bif (Go.Dn.inB x2 (((List.length x0) : Nat) : Int)) then
      (Go.Dn.share (List.getD x0 (Int.toNat x2) ((0 : Int), ((0 : Int), ((0 : Int), ((0 : Int), ((0 : Int), (false, (((0 : Int), (((0 : Int), ((0 : Int), (([] : List Int), ()))), ())), ())))))))) fun s0 =>
        bif (Go.Dn.inB x2 (((List.length x1) : Nat) : Int)) then
        (Go.Dn.share (List.getD x1 (Int.toNat x2) ((0 : Int), ((0 : Int), ((0 : Int), ((0 : Int), ((0 : Int), (false, (((0 : Int), (((0 : Int), ((0 : Int), (([] : List Int), ()))), ())), ())))))))) fun s1 =>
          (laws_eqMail.F k (s0, s1, ())).bind fun y2 =>
          bif (!y2.1.1) then
          (c0 (false, ()))
          else laws_eqMailS.l4 k c0 c1 n x0 x1 (IntKind.wrap .i64 (x2 + (1 : Int))))
        else none)
      else none)
    else c1 (())
def laws_eqMailS.F (k : Nat) (x : ((List (Int × (Int × (Int × (Int × (Int × (Bool × ((Int × ((Int × (Int × ((List Int) × Unit))) × Unit)) × Unit)))))))) × ((List (Int × (Int × (Int × (Int × (Int × (Bool × ((Int × ((Int × (Int × ((List Int) × Unit))) × Unit)) × Unit)))))))) × Unit))) : Option ((Bool × Unit) × Unit) :=
  bif ((((List.length x.1) : Nat) : Int) != (((List.length x.2.1) : Nat) : Int)) then
  (some ((false, ()), ()))
  else laws_eqMailS.l4 k (fun e3 =>
      some (e3, ())) (fun e4 =>
      some ((true, ()), ())) k x.1 x.2.1 (0 : Int)
def laws_eqMailS.hd : Hints := ⟨[(4, ⟨[0, 1, 5], []⟩)], [(0, []), (1, [0, 1, 5])], [4], [0, 1, 5], [(6, [0, 0, 3, 7, 0, 0, 48, 112, 255, 511])]⟩
def laws_eqMailS.lps (k : Nat) : List (Nat × Lp laws_eqMailS.sg.Out) := [(4, ⟨[.l kMail, .l kMail, .i], fun x => (fun x0 x1 x2 => ⟨[(0, .v false [.fz kMail x0]), (1, .v false [.fz kMail x1]), (5, .v false [.int .i64 x2])], [], []⟩) x.1 x.2.1 x.2.2.1, fun C n x => laws_eqMailS.l4 k (fun y => C .ret ((fun y0 => ⟨[(4, .v false [.bool y0])], [], []⟩) y.1)) (fun _ => C (.exit 0) ⟨[], [], []⟩) n x.1 x.2.1 x.2.2.1⟩)]
theorem laws_eqMailS.loops (k : Nat) : LoopsOk laws_eqMailS.E k laws_eqMailS.hd (laws_eqMailS.lps k) (loopsOf (Go.Proofs.Tryz.f35.body.getD .skip)) := ⟨⟨fun _ _ => rfl, fun _ _ _ => by kernel_rfl, fun _ => ⟨rfl, rfl⟩⟩, trivial⟩
theorem laws_eqMailS.den (k : Nat) (x : Sig.In laws_eqMailS.sg.ps) : denFn laws_eqMailS.E k Go.Proofs.Tryz.f35 laws_eqMailS.sg laws_eqMailS.hd (runL k laws_eqMailS.hd (laws_eqMailS.lps k)) x = laws_eqMailS.F k x := by kernel_rfl
theorem laws_eqMailS.ok (k : Nat) : Contract Tryz.prog 35 laws_eqMailS.sg (laws_eqMailS.F k) := ok_of (E := laws_eqMailS.E) (tysOk _ _) (eqsOk _) ⟨laws_eqMail.ok k, trivial⟩ Tryz.func35 rfl (by kernel_rfl) (laws_eqMailS.loops k) (laws_eqMailS.den k)
def laws_eqPair.sg : Sig := ⟨[.b kPair, .b kPair], [(.bool, .rd)]⟩
def laws_eqPair.E : Env := ⟨tys, bys, [(32, ⟨laws_eqSettings.sg, laws_eqSettings.F⟩), (33, ⟨laws_eqNodeS.sg, laws_eqNodeS.F⟩), (34, ⟨laws_eqWireS.sg, laws_eqWireS.F⟩), (35, ⟨laws_eqMailS.sg, laws_eqMailS.F⟩), (36, ⟨laws_eqEntryS.sg, laws_eqEntryS.F⟩)], eqs⟩
def laws_eqPair.F (k : Nat) (x : ((((Int × (Int × (Int × Unit))) × (Int × ((List ((Int × (Int × Unit)) × (Int × (Int × (Int × (Bool × (Int × (Int × Unit)))))))) × ((List ((Int × (Int × Unit)) × (Int × (Int × (Int × (Bool × (Int × (Int × Unit)))))))) × Unit)))) × ((List (Int × (Bool × (Int × (Int × ((List (Int × ((Int × (Int × ((List Int) × Unit))) × Unit))) × (Int × (Int × (Int × (Int × Unit)))))))))) × ((List (Int × ((List Int) × (Int × ((List Int) × Unit))))) × ((List (Int × (Int × (Int × (Int × (Int × (Bool × ((Int × ((Int × (Int × ((List Int) × Unit))) × Unit)) × Unit)))))))) × ((List (Int × ((Int × (Int × ((List Int) × Unit))) × Unit))) × Unit))))) × ((((Int × (Int × (Int × Unit))) × (Int × ((List ((Int × (Int × Unit)) × (Int × (Int × (Int × (Bool × (Int × (Int × Unit)))))))) × ((List ((Int × (Int × Unit)) × (Int × (Int × (Int × (Bool × (Int × (Int × Unit)))))))) × Unit)))) × ((List (Int × (Bool × (Int × (Int × ((List (Int × ((Int × (Int × ((List Int) × Unit))) × Unit))) × (Int × (Int × (Int × (Int × Unit)))))))))) × ((List (Int × ((List Int) × (Int × ((List Int) × Unit))))) × ((List (Int × (Int × (Int × (Int × (Int × (Bool × ((Int × ((Int × (Int × ((List Int) × Unit))) × Unit)) × Unit)))))))) × ((List (Int × ((Int × (Int × ((List Int) × Unit))) × Unit))) × Unit))))) × Unit))) : Option ((Bool × Unit) × Unit) :=
  (laws_eqSettings.F k (x.1.1, x.2.1.1, ())).bind fun y0 =>
  bif (!y0.1.1) then
  (some ((false, ()), ()))
  else (laws_eqNodeS.F k (x.1.2.1, x.2.1.2.1, ())).bind fun y1 =>
    bif (!y1.1.1) then
    (some ((false, ()), ()))
    else (laws_eqWireS.F k (x.1.2.2.1, x.2.1.2.2.1, ())).bind fun y2 =>
      bif (!y2.1.1) then
      (some ((false, ()), ()))
      else (laws_eqMailS.F k (x.1.2.2.2.1, x.2.1.2.2.2.1, ())).bind fun y3 =>
        bif (!y3.1.1) then
        (some ((false, ()), ()))
        else (laws_eqEntryS.F k (x.1.2.2.2.2.1, x.2.1.2.2.2.2)).bind fun y4 =>
          bif (!y4.1.1) then
          (some ((false, ()), ()))
          else some ((true, ()), ())
def laws_eqPair.hd : Hints := ⟨[], [], [4], [0, 1, 2, 3], []⟩
def laws_eqPair.lps (k : Nat) : List (Nat × Lp laws_eqPair.sg.Out) := []
theorem laws_eqPair.loops (k : Nat) : LoopsOk laws_eqPair.E k laws_eqPair.hd (laws_eqPair.lps k) (loopsOf (Go.Proofs.Tryz.f11.body.getD .skip)) := trivial
theorem laws_eqPair.den (k : Nat) (x : Sig.In laws_eqPair.sg.ps) : denFn laws_eqPair.E k Go.Proofs.Tryz.f11 laws_eqPair.sg laws_eqPair.hd (runL k laws_eqPair.hd (laws_eqPair.lps k)) x = laws_eqPair.F k x := by kernel_rfl
theorem laws_eqPair.ok (k : Nat) : Contract Tryz.prog 11 laws_eqPair.sg (laws_eqPair.F k) := ok_of (E := laws_eqPair.E) (tysOk _ _) (eqsOk _) ⟨laws_eqSettings.ok k, laws_eqNodeS.ok k, laws_eqWireS.ok k, laws_eqMailS.ok k, laws_eqEntryS.ok k, trivial⟩ Tryz.func11 rfl (by kernel_rfl) (laws_eqPair.loops k) (laws_eqPair.den k)
def spec_l15SameEntry.sg : Sig := ⟨[.b kEntry, .b kEntry], [(.bool, .rd)]⟩
def spec_l15SameEntry.E : Env := ⟨tys, bys, [], eqs⟩
def spec_l15SameEntry.F (k : Nat) (x : ((Int × ((Int × (Int × ((List Int) × Unit))) × Unit)) × ((Int × ((Int × (Int × ((List Int) × Unit))) × Unit)) × Unit))) : Option ((Bool × Unit) × Unit) :=
  bif (x.1.1 == x.2.1.1) then
  (bif (x.1.2.1.1 == x.2.1.2.1.1) then
    (bif (x.1.2.1.2.1 == x.2.1.2.1.2.1) then
      (some (((Go.Dn.strEq (Go.Dn.strOf x.1.2.1.2.2.1) (Go.Dn.strOf x.2.1.2.1.2.2.1)), ()), ()))
      else some ((false, ()), ()))
    else some ((false, ()), ()))
  else some ((false, ()), ())
def spec_l15SameEntry.hd : Hints := ⟨[], [], [4], [0, 1, 2, 3], []⟩
def spec_l15SameEntry.lps (k : Nat) : List (Nat × Lp spec_l15SameEntry.sg.Out) := []
theorem spec_l15SameEntry.loops (k : Nat) : LoopsOk spec_l15SameEntry.E k spec_l15SameEntry.hd (spec_l15SameEntry.lps k) (loopsOf (Go.Proofs.Tryz.f112.body.getD .skip)) := trivial
theorem spec_l15SameEntry.den (k : Nat) (x : Sig.In spec_l15SameEntry.sg.ps) : denFn spec_l15SameEntry.E k Go.Proofs.Tryz.f112 spec_l15SameEntry.sg spec_l15SameEntry.hd (runL k spec_l15SameEntry.hd (spec_l15SameEntry.lps k)) x = spec_l15SameEntry.F k x := by kernel_rfl
theorem spec_l15SameEntry.ok (k : Nat) : Contract Tryz.prog 112 spec_l15SameEntry.sg (spec_l15SameEntry.F k) := ok_of (E := spec_l15SameEntry.E) (tysOk _ _) (eqsOk _) trivial Tryz.func112 rfl (by kernel_rfl) (spec_l15SameEntry.loops k) (spec_l15SameEntry.den k)
def spec_l15Common.sg : Sig := ⟨[.b (.sl kEntry), .b (.sl kEntry)], [((.int .i64), .rd)]⟩
def spec_l15Common.E : Env := ⟨tys, bys, [(112, ⟨spec_l15SameEntry.sg, spec_l15SameEntry.F⟩)], eqs⟩
def spec_l15Common.l2 {ρ : Type} (k : Nat) (c0 : (Int × Unit) → Option ρ) : Nat → List (Int × ((Int × (Int × ((List Int) × Unit))) × Unit)) → List (Int × ((Int × (Int × ((List Int) × Unit))) × Unit)) → Int → Option ρ
  | 0 => fun _ _ _ => none
  | n + 1 => fun x0 x1 x2 => 
    bif (decide ((x2 < (((List.length x0) : Nat) : Int)))) then
    (bif (decide ((x2 < (((List.length x1) : Nat) : Int)))) then
      (bif (Go.Dn.inB x2 (((List.length x0) : Nat) : Int)) then
        (Go.Dn.share (List.getD x0 (Int.toNat x2) ((0 : Int), (((0 : Int), ((0 : Int), (([] : List Int), ()))), ()))) fun s0 =>
          bif (Go.Dn.inB x2 (((List.length x1) : Nat) : Int)) then
          (Go.Dn.share (List.getD x1 (Int.toNat x2) ((0 : Int), (((0 : Int), ((0 : Int), (([] : List Int), ()))), ()))) fun s1 =>
            (spec_l15SameEntry.F k (s0, s1, ())).bind fun y2 =>
            bif y2.1.1 then
            (spec_l15Common.l2 k c0 n x0 x1 (IntKind.wrap .i64 (x2 + (1 : Int))))
            else c0 (x2, ()))
          else none)
        else none)
      else c0 (x2, ()))
    else c0 (x2, ())
def spec_l15Common.F (k : Nat) (x : ((List (Int × ((Int × (Int × ((List Int) × Unit))) × Unit))) × ((List (Int × ((Int × (Int × ((List Int) × Unit))) × Unit))) × Unit))) : Option ((Int × Unit) × Unit) :=
  spec_l15Common.l2 k (fun e3 =>
    some (e3, ())) k x.1 x.2.1 (0 : Int)
def spec_l15Common.hd : Hints := ⟨[(2, ⟨[0, 1, 5], []⟩)], [(0, [5]), (1, [0, 1, 5])], [4], [0, 1, 5], [(2, [0, 0, 2, 7, 15, 31, 31, 95, 255, 511, 1023, 2047, 2047, 8191, 16383, 2047, 2047, 100351, 231423, 524287, 1048575])]⟩
def spec_l15Common.lps (k : Nat) : List (Nat × Lp spec_l15Common.sg.Out) := [(2, ⟨[.l kEntry, .l kEntry, .i], fun x => (fun x0 x1 x2 => ⟨[(0, .v false [.fz kEntry x0]), (1, .v false [.fz kEntry x1]), (5, .v false [.int .i64 x2])], [], []⟩) x.1 x.2.1 x.2.2.1, fun C n x => spec_l15Common.l2 k (fun y => C (.exit 0) ((fun y0 => ⟨[(5, .v false [.int .i64 y0])], [], []⟩) y.1)) n x.1 x.2.1 x.2.2.1⟩)]
theorem spec_l15Common.loops (k : Nat) : LoopsOk spec_l15Common.E k spec_l15Common.hd (spec_l15Common.lps k) (loopsOf (Go.Proofs.Tryz.f76.body.getD .skip)) := ⟨⟨fun _ _ => rfl, fun _ _ _ => by kernel_rfl, fun _ => ⟨rfl, rfl⟩⟩, trivial⟩
theorem spec_l15Common.den (k : Nat) (x : Sig.In spec_l15Common.sg.ps) : denFn spec_l15Common.E k Go.Proofs.Tryz.f76 spec_l15Common.sg spec_l15Common.hd (runL k spec_l15Common.hd (spec_l15Common.lps k)) x = spec_l15Common.F k x := by kernel_rfl
theorem spec_l15Common.ok (k : Nat) : Contract Tryz.prog 76 spec_l15Common.sg (spec_l15Common.F k) := ok_of (E := spec_l15Common.E) (tysOk _ _) (eqsOk _) ⟨spec_l15SameEntry.ok k, trivial⟩ Tryz.func76 rfl (by kernel_rfl) (spec_l15Common.loops k) (spec_l15Common.den k)
def slices_EqualFunc_impl_Entry_impl_Entry_impl_Entry_impl_Entry.sg : Sig := ⟨[.b (.sl kEntry), .b (.sl kEntry), .f (.pair kEntry (.pair kEntry .unit)) .bool], [(.bool, .rd)]⟩
def slices_EqualFunc_impl_Entry_impl_Entry_impl_Entry_impl_Entry.E : Env := ⟨tys, bys, [], eqs⟩
def slices_EqualFunc_impl_Entry_impl_Entry_impl_Entry_impl_Entry.l4 {ρ : Type} (k : Nat) (c0 : (Bool × Unit) → Option ρ) (c1 : Unit → Option ρ) : Nat → List (Int × ((Int × (Int × ((List Int) × Unit))) × Unit)) → (((Int × ((Int × (Int × ((List Int) × Unit))) × Unit)) × ((Int × ((Int × (Int × ((List Int) × Unit))) × Unit)) × Unit)) → Option Bool) → List (Int × ((Int × (Int × ((List Int) × Unit))) × Unit)) → Int → Int → Option ρ
  | 0 => fun _ _ _ _ _ => none
  | n + 1 => fun x0 x1 x2 x3 x4 => 
    bif (decide ((x4 < x3))) then
    (bif (Go.Dn.inB x4 (((List.length x2) : Nat) : Int)) then
      (Go.Dn.share (List.getD x2 (Int.toNat x4) ((0 : Int), (((0 : Int), ((0 : Int), (([] : List Int), ()))), ()))) fun s0 =>
        bif (Go.Dn.inB x4 (((List.length x0) : Nat) : Int)) then
        (Go.Dn.share (List.getD x0 (Int.toNat x4) ((0 : Int), (((0 : Int), ((0 : Int), (([] : List Int), ()))), ()))) fun s1 =>
          (x1 (s0, s1, ())).bind fun y2 =>
          bif (!y2) then
          (c0 (false, ()))
          else slices_EqualFunc_impl_Entry_impl_Entry_impl_Entry_impl_Entry.l4 k c0 c1 n x0 x1 x2 x3 (IntKind.wrap .i64 (x4 + (1 : Int))))
        else none)
      else none)
    else c1 (())
def slices_EqualFunc_impl_Entry_impl_Entry_impl_Entry_impl_Entry.F (k : Nat) (x : ((List (Int × ((Int × (Int × ((List Int) × Unit))) × Unit))) × ((List (Int × ((Int × (Int × ((List Int) × Unit))) × Unit))) × ((((Int × ((Int × (Int × ((List Int) × Unit))) × Unit)) × ((Int × ((Int × (Int × ((List Int) × Unit))) × Unit)) × Unit)) → Option Bool) × Unit)))) : Option ((Bool × Unit) × Unit) :=
  bif ((((List.length x.1) : Nat) : Int) != (((List.length x.2.1) : Nat) : Int)) then
  (some ((false, ()), ()))
  else slices_EqualFunc_impl_Entry_impl_Entry_impl_Entry_impl_Entry.l4 k (fun e3 =>
      some (e3, ())) (fun e4 =>
      some ((true, ()), ())) k x.2.1 x.2.2.1 x.1 (((List.length x.1) : Nat) : Int) (0 : Int)
def slices_EqualFunc_impl_Entry_impl_Entry_impl_Entry_impl_Entry.hd : Hints := ⟨[(4, ⟨[1, 2, 15, 16, 17], []⟩)], [(0, []), (1, [1, 2, 15, 16, 17])], [6], [0, 1, 2, 7, 8, 9, 15, 16, 17], []⟩
def slices_EqualFunc_impl_Entry_impl_Entry_impl_Entry_impl_Entry.lps (k : Nat) : List (Nat × Lp slices_EqualFunc_impl_Entry_impl_Entry_impl_Entry_impl_Entry.sg.Out) := [(4, ⟨[.l kEntry, .f (.pair kEntry (.pair kEntry .unit)) .bool, .l kEntry, .i, .i], fun x => (fun x0 x1 x2 x3 x4 => ⟨[(1, .v false [.fz kEntry x0]), (2, .v false [.fnv (.pair kEntry (.pair kEntry .unit)) .bool x1]), (15, .v false [.fz kEntry x2]), (16, .v false [.int .i64 x3]), (17, .v false [.int .i64 x4])], [], []⟩) x.1 x.2.1 x.2.2.1 x.2.2.2.1 x.2.2.2.2.1, fun C n x => slices_EqualFunc_impl_Entry_impl_Entry_impl_Entry_impl_Entry.l4 k (fun y => C .ret ((fun y0 => ⟨[(6, .v false [.bool y0])], [], []⟩) y.1)) (fun _ => C (.exit 0) ⟨[], [], []⟩) n x.1 x.2.1 x.2.2.1 x.2.2.2.1 x.2.2.2.2.1⟩)]
theorem slices_EqualFunc_impl_Entry_impl_Entry_impl_Entry_impl_Entry.loops (k : Nat) : LoopsOk slices_EqualFunc_impl_Entry_impl_Entry_impl_Entry_impl_Entry.E k slices_EqualFunc_impl_Entry_impl_Entry_impl_Entry_impl_Entry.hd (slices_EqualFunc_impl_Entry_impl_Entry_impl_Entry_impl_Entry.lps k) (loopsOf (Go.Proofs.Tryz.f113.body.getD .skip)) := ⟨⟨fun _ _ => rfl, fun _ _ _ => by kernel_rfl, fun _ => ⟨rfl, rfl⟩⟩, trivial⟩
theorem slices_EqualFunc_impl_Entry_impl_Entry_impl_Entry_impl_Entry.den (k : Nat) (x : Sig.In slices_EqualFunc_impl_Entry_impl_Entry_impl_Entry_impl_Entry.sg.ps) : denFn slices_EqualFunc_impl_Entry_impl_Entry_impl_Entry_impl_Entry.E k Go.Proofs.Tryz.f113 slices_EqualFunc_impl_Entry_impl_Entry_impl_Entry_impl_Entry.sg slices_EqualFunc_impl_Entry_impl_Entry_impl_Entry_impl_Entry.hd (runL k slices_EqualFunc_impl_Entry_impl_Entry_impl_Entry_impl_Entry.hd (slices_EqualFunc_impl_Entry_impl_Entry_impl_Entry_impl_Entry.lps k)) x = slices_EqualFunc_impl_Entry_impl_Entry_impl_Entry_impl_Entry.F k x := by kernel_rfl
theorem slices_EqualFunc_impl_Entry_impl_Entry_impl_Entry_impl_Entry.ok (k : Nat) : Contract Tryz.prog 113 slices_EqualFunc_impl_Entry_impl_Entry_impl_Entry_impl_Entry.sg (slices_EqualFunc_impl_Entry_impl_Entry_impl_Entry_impl_Entry.F k) := ok_of (E := slices_EqualFunc_impl_Entry_impl_Entry_impl_Entry_impl_Entry.E) (tysOk _ _) (eqsOk _) trivial Tryz.func113 rfl (by kernel_rfl) (slices_EqualFunc_impl_Entry_impl_Entry_impl_Entry_impl_Entry.loops k) (slices_EqualFunc_impl_Entry_impl_Entry_impl_Entry_impl_Entry.den k)
def bytes_Equal.sg : Sig := ⟨[.b (.sl (.int .u8)), .b (.sl (.int .u8))], [(.bool, .rd)]⟩
def bytes_Equal.E : Env := ⟨tys, bys, [], eqs⟩
def bytes_Equal.F (k : Nat) (x : ((List Int) × ((List Int) × Unit))) : Option ((Bool × Unit) × Unit) :=
  some (((Go.Dn.strEq (Go.Dn.strOf x.1) (Go.Dn.strOf x.2.1)), ()), ())
def bytes_Equal.hd : Hints := ⟨[], [], [4], [0, 1], []⟩
def bytes_Equal.lps (k : Nat) : List (Nat × Lp bytes_Equal.sg.Out) := []
theorem bytes_Equal.loops (k : Nat) : LoopsOk bytes_Equal.E k bytes_Equal.hd (bytes_Equal.lps k) (loopsOf (Go.Proofs.Tryz.f116.body.getD .skip)) := trivial
theorem bytes_Equal.den (k : Nat) (x : Sig.In bytes_Equal.sg.ps) : denFn bytes_Equal.E k Go.Proofs.Tryz.f116 bytes_Equal.sg bytes_Equal.hd (runL k bytes_Equal.hd (bytes_Equal.lps k)) x = bytes_Equal.F k x := by kernel_rfl
theorem bytes_Equal.ok (k : Nat) : Contract Tryz.prog 116 bytes_Equal.sg (bytes_Equal.F k) := ok_of (E := bytes_Equal.E) (tysOk _ _) (eqsOk _) trivial Tryz.func116 rfl (by kernel_rfl) (bytes_Equal.loops k) (bytes_Equal.den k)
def impl_sameEntry.sg : Sig := ⟨[.b kEntry, .b kEntry], [(.bool, .rd)]⟩
def impl_sameEntry.E : Env := ⟨tys, bys, [(116, ⟨bytes_Equal.sg, bytes_Equal.F⟩)], eqs⟩
def impl_sameEntry.F (k : Nat) (x : ((Int × ((Int × (Int × ((List Int) × Unit))) × Unit)) × ((Int × ((Int × (Int × ((List Int) × Unit))) × Unit)) × Unit))) : Option ((Bool × Unit) × Unit) :=
  bif (x.1.1 == x.2.1.1) then
  (bif (x.1.2.1.1 == x.2.1.2.1.1) then
    (bif (x.1.2.1.2.1 == x.2.1.2.1.2.1) then
      ((bytes_Equal.F k (x.1.2.1.2.2.1, x.2.1.2.1.2.2)).bind fun y0 =>
        some y0)
      else some ((false, ()), ()))
    else some ((false, ()), ()))
  else some ((false, ()), ())
def impl_sameEntry.hd : Hints := ⟨[], [], [4], [0, 1, 2, 3], []⟩
def impl_sameEntry.lps (k : Nat) : List (Nat × Lp impl_sameEntry.sg.Out) := []
theorem impl_sameEntry.loops (k : Nat) : LoopsOk impl_sameEntry.E k impl_sameEntry.hd (impl_sameEntry.lps k) (loopsOf (Go.Proofs.Tryz.f114.body.getD .skip)) := trivial
theorem impl_sameEntry.den (k : Nat) (x : Sig.In impl_sameEntry.sg.ps) : denFn impl_sameEntry.E k Go.Proofs.Tryz.f114 impl_sameEntry.sg impl_sameEntry.hd (runL k impl_sameEntry.hd (impl_sameEntry.lps k)) x = impl_sameEntry.F k x := by kernel_rfl
theorem impl_sameEntry.ok (k : Nat) : Contract Tryz.prog 114 impl_sameEntry.sg (impl_sameEntry.F k) := ok_of (E := impl_sameEntry.E) (tysOk _ _) (eqsOk _) ⟨bytes_Equal.ok k, trivial⟩ Tryz.func114 rfl (by kernel_rfl) (impl_sameEntry.loops k) (impl_sameEntry.den k)
def impl_sameEntries.sg : Sig := ⟨[.b (.sl kEntry), .b (.sl kEntry)], [(.bool, .rd)]⟩
def impl_sameEntries.E : Env := ⟨tys, bys, [(113, ⟨slices_EqualFunc_impl_Entry_impl_Entry_impl_Entry_impl_Entry.sg, slices_EqualFunc_impl_Entry_impl_Entry_impl_Entry_impl_Entry.F⟩), (114, ⟨impl_sameEntry.sg, impl_sameEntry.F⟩)], eqs⟩
def impl_sameEntries.F (k : Nat) (x : ((List (Int × ((Int × (Int × ((List Int) × Unit))) × Unit))) × ((List (Int × ((Int × (Int × ((List Int) × Unit))) × Unit))) × Unit))) : Option ((Bool × Unit) × Unit) :=
  (slices_EqualFunc_impl_Entry_impl_Entry_impl_Entry_impl_Entry.F k (x.1, x.2.1, (fun q => (Option.bind (impl_sameEntry.F k q) (fun y => (Option.some y.1.1)))), ())).bind fun y0 =>
  some y0
def impl_sameEntries.hd : Hints := ⟨[], [], [4], [0, 1], []⟩
def impl_sameEntries.lps (k : Nat) : List (Nat × Lp impl_sameEntries.sg.Out) := []
theorem impl_sameEntries.loops (k : Nat) : LoopsOk impl_sameEntries.E k impl_sameEntries.hd (impl_sameEntries.lps k) (loopsOf (Go.Proofs.Tryz.f77.body.getD .skip)) := trivial
theorem impl_sameEntries.den (k : Nat) (x : Sig.In impl_sameEntries.sg.ps) : denFn impl_sameEntries.E k Go.Proofs.Tryz.f77 impl_sameEntries.sg impl_sameEntries.hd (runL k impl_sameEntries.hd (impl_sameEntries.lps k)) x = impl_sameEntries.F k x := by kernel_rfl
theorem impl_sameEntries.ok (k : Nat) : Contract Tryz.prog 77 impl_sameEntries.sg (impl_sameEntries.F k) := ok_of (E := impl_sameEntries.E) (tysOk _ _) (eqsOk _) ⟨slices_EqualFunc_impl_Entry_impl_Entry_impl_Entry_impl_Entry.ok k, impl_sameEntry.ok k, trivial⟩ Tryz.func77 rfl (by kernel_rfl) (impl_sameEntries.loops k) (impl_sameEntries.den k)

end
end Go.Proofs.YtliaeahjdenlfaaGreat
set_option linter.unusedVariables false
set_option maxRecDepth 100000
namespace Go.Proofs.YtliaeahjdenlfaaGreat
open Go Go.Dn
noncomputable section

def spec_l15Sealed.sg : Sig := ⟨[.r kPair], [(.bool, .rd)]⟩
def spec_l15Sealed.E : Env := ⟨tys, bys, [(76, ⟨spec_l15Common.sg, spec_l15Common.F⟩)], eqs⟩
def spec_l15Sealed.l2 {ρ : Type} (k : Nat) (c0 : (Bool × Unit) → Option ρ) (c1 : Unit → Option ρ) : Nat → (((Int × (Int × (Int × Unit))) × (Int × ((List ((Int × (Int × Unit)) × (Int × (Int × (Int × (Bool × (Int × (Int × Unit)))))))) × ((List ((Int × (Int × Unit)) × (Int × (Int × (Int × (Bool × (Int × (Int × Unit)))))))) × Unit)))) × ((List (Int × (Bool × (Int × (Int × ((List (Int × ((Int × (Int × ((List Int) × Unit))) × Unit))) × (Int × (Int × (Int × (Int × Unit)))))))))) × ((List (Int × ((List Int) × (Int × ((List Int) × Unit))))) × ((List (Int × (Int × (Int × (Int × (Int × (Bool × ((Int × ((Int × (Int × ((List Int) × Unit))) × Unit)) × Unit)))))))) × ((List (Int × ((Int × (Int × ((List Int) × Unit))) × Unit))) × Unit))))) → Int → Option ρ
  | 0 => fun _ _ => none
  | n + 1 => fun x0 x1 => 
    bif (decide ((x1 < (2 : Int)))) then
    (bif (Go.Dn.inB x1 (((List.length x0.2.1) : Nat) : Int)) then
      (Go.Dn.share (List.getD x0.2.1 (Int.toNat x1) ((0 : Int), (false, ((0 : Int), ((0 : Int), (([] : List (Int × ((Int × (Int × ((List Int) × Unit))) × Unit))), ((0 : Int), ((0 : Int), ((0 : Int), ((0 : Int), ())))))))))) fun s0 =>
        bif (decide ((s0.2.2.2.2.2.1 < (((List.length x0.2.2.2.2.1) : Nat) : Int)))) then
        (c0 (false, ()))
        else (spec_l15Common.F k (s0.2.2.2.2.1, x0.2.2.2.2)).bind fun y1 =>
          bif (y1.1.1 != (((List.length x0.2.2.2.2.1) : Nat) : Int)) then
          (c0 (false, ()))
          else spec_l15Sealed.l2 k c0 c1 n x0 (IntKind.wrap .i64 (x1 + (1 : Int))))
      else none)
    else c1 (())
def spec_l15Sealed.F (k : Nat) (x : ((((Int × (Int × (Int × Unit))) × (Int × ((List ((Int × (Int × Unit)) × (Int × (Int × (Int × (Bool × (Int × (Int × Unit)))))))) × ((List ((Int × (Int × Unit)) × (Int × (Int × (Int × (Bool × (Int × (Int × Unit)))))))) × Unit)))) × ((List (Int × (Bool × (Int × (Int × ((List (Int × ((Int × (Int × ((List Int) × Unit))) × Unit))) × (Int × (Int × (Int × (Int × Unit)))))))))) × ((List (Int × ((List Int) × (Int × ((List Int) × Unit))))) × ((List (Int × (Int × (Int × (Int × (Int × (Bool × ((Int × ((Int × (Int × ((List Int) × Unit))) × Unit)) × Unit)))))))) × ((List (Int × ((Int × (Int × ((List Int) × Unit))) × Unit))) × Unit))))) × Unit)) : Option ((Bool × Unit) × Unit) :=
  spec_l15Sealed.l2 k (fun e2 =>
    some (e2, ())) (fun e3 =>
    some ((true, ()), ())) k x.1 (0 : Int)
def spec_l15Sealed.hd : Hints := ⟨[(2, ⟨[0, 3], []⟩)], [(0, []), (1, [0, 3])], [2], [0, 3, 4], [(5, [0, 1, 3, 7, 0, 16, 48, 112, 240, 511, 1023, 2047, 4095, 8191, 16383, 2047, 34815, 100351, 231423, 524287, 2047, 1050623, 3147775, 7342079, 15730687, 33554431, 67108863])]⟩
def spec_l15Sealed.lps (k : Nat) : List (Nat × Lp spec_l15Sealed.sg.Out) := [(2, ⟨[.x kPair, .i], fun x => (fun x0 x1 => ⟨[(0, .v false [.fel kPair x0 0]), (3, .v false [.int .i64 x1])], [], []⟩) x.1 x.2.1, fun C n x => spec_l15Sealed.l2 k (fun y => C .ret ((fun y0 => ⟨[(2, .v false [.bool y0])], [], []⟩) y.1)) (fun _ => C (.exit 0) ⟨[], [], []⟩) n x.1 x.2.1⟩)]
theorem spec_l15Sealed.loops (k : Nat) : LoopsOk spec_l15Sealed.E k spec_l15Sealed.hd (spec_l15Sealed.lps k) (loopsOf (Go.Proofs.Tryz.f39.body.getD .skip)) := ⟨⟨fun _ _ => rfl, fun _ _ _ => by kernel_rfl, fun _ => ⟨rfl, rfl⟩⟩, trivial⟩
theorem spec_l15Sealed.den (k : Nat) (x : Sig.In spec_l15Sealed.sg.ps) : denFn spec_l15Sealed.E k Go.Proofs.Tryz.f39 spec_l15Sealed.sg spec_l15Sealed.hd (runL k spec_l15Sealed.hd (spec_l15Sealed.lps k)) x = spec_l15Sealed.F k x := by kernel_rfl
theorem spec_l15Sealed.ok (k : Nat) : Contract Tryz.prog 39 spec_l15Sealed.sg (spec_l15Sealed.F k) := ok_of (E := spec_l15Sealed.E) (tysOk _ _) (eqsOk _) ⟨spec_l15Common.ok k, trivial⟩ Tryz.func39 rfl (by kernel_rfl) (spec_l15Sealed.loops k) (spec_l15Sealed.den k)
def spec_SealedRight.sg : Sig := ⟨[.b kPair], [(.bool, .rd)]⟩
def spec_SealedRight.E : Env := ⟨tys, bys, [(23, ⟨spec_l14Fault.sg, spec_l14Fault.F⟩), (39, ⟨spec_l15Sealed.sg, spec_l15Sealed.F⟩)], eqs⟩
def spec_SealedRight.F (k : Nat) (x : ((((Int × (Int × (Int × Unit))) × (Int × ((List ((Int × (Int × Unit)) × (Int × (Int × (Int × (Bool × (Int × (Int × Unit)))))))) × ((List ((Int × (Int × Unit)) × (Int × (Int × (Int × (Bool × (Int × (Int × Unit)))))))) × Unit)))) × ((List (Int × (Bool × (Int × (Int × ((List (Int × ((Int × (Int × ((List Int) × Unit))) × Unit))) × (Int × (Int × (Int × (Int × Unit)))))))))) × ((List (Int × ((List Int) × (Int × ((List Int) × Unit))))) × ((List (Int × (Int × (Int × (Int × (Int × (Bool × ((Int × ((Int × (Int × ((List Int) × Unit))) × Unit)) × Unit)))))))) × ((List (Int × ((Int × (Int × ((List Int) × Unit))) × Unit))) × Unit))))) × Unit)) : Option ((Bool × Unit) × Unit) :=
  (spec_l14Fault.F k x).bind fun y0 =>
  bif (y0.1.1 == (0 : Int)) then
  ((spec_l15Sealed.F k x).bind fun y1 =>
    some y1)
  else some ((false, ()), ())
def spec_SealedRight.hd : Hints := ⟨[], [], [2], [0, 1], []⟩
def spec_SealedRight.lps (k : Nat) : List (Nat × Lp spec_SealedRight.sg.Out) := []
theorem spec_SealedRight.loops (k : Nat) : LoopsOk spec_SealedRight.E k spec_SealedRight.hd (spec_SealedRight.lps k) (loopsOf (Go.Proofs.Tryz.f14.body.getD .skip)) := trivial
theorem spec_SealedRight.den (k : Nat) (x : Sig.In spec_SealedRight.sg.ps) : denFn spec_SealedRight.E k Go.Proofs.Tryz.f14 spec_SealedRight.sg spec_SealedRight.hd (runL k spec_SealedRight.hd (spec_SealedRight.lps k)) x = spec_SealedRight.F k x := by kernel_rfl
theorem spec_SealedRight.ok (k : Nat) : Contract Tryz.prog 14 spec_SealedRight.sg (spec_SealedRight.F k) := ok_of (E := spec_SealedRight.E) (tysOk _ _) (eqsOk _) ⟨spec_l14Fault.ok k, spec_l15Sealed.ok k, trivial⟩ Tryz.func14 rfl (by kernel_rfl) (spec_SealedRight.loops k) (spec_SealedRight.den k)
def slices_IndexFunc_impl_Node_impl_Node.sg : Sig := ⟨[.b (.sl kNode), .f (.pair kNode .unit) .bool], [((.int .i64), .rd)]⟩
def slices_IndexFunc_impl_Node_impl_Node.E : Env := ⟨tys, bys, [], eqs⟩
def slices_IndexFunc_impl_Node_impl_Node.l2 {ρ : Type} (k : Nat) (c0 : (Int × Unit) → Option ρ) (c1 : Unit → Option ρ) : Nat → List (Int × (Bool × (Int × (Int × ((List (Int × ((Int × (Int × ((List Int) × Unit))) × Unit))) × (Int × (Int × (Int × (Int × Unit))))))))) → (((Int × (Bool × (Int × (Int × ((List (Int × ((Int × (Int × ((List Int) × Unit))) × Unit))) × (Int × (Int × (Int × (Int × Unit))))))))) × Unit) → Option Bool) → Int → Int → Option ρ
  | 0 => fun _ _ _ _ => none
  | n + 1 => fun x0 x1 x2 x3 => 
    bif (decide ((x3 < x2))) then
    (bif (Go.Dn.inB x3 (((List.length x0) : Nat) : Int)) then
      (Go.Dn.share (List.getD x0 (Int.toNat x3) ((0 : Int), (false, ((0 : Int), ((0 : Int), (([] : List (Int × ((Int × (Int × ((List Int) × Unit))) × Unit))), ((0 : Int), ((0 : Int), ((0 : Int), ((0 : Int), ())))))))))) fun s0 =>
        (x1 (s0, ())).bind fun y1 =>
        bif y1 then
        (c0 (x3, ()))
        else slices_IndexFunc_impl_Node_impl_Node.l2 k c0 c1 n x0 x1 x2 (IntKind.wrap .i64 (x3 + (1 : Int))))
      else none)
    else c1 (())
def slices_IndexFunc_impl_Node_impl_Node.F (k : Nat) (x : ((List (Int × (Bool × (Int × (Int × ((List (Int × ((Int × (Int × ((List Int) × Unit))) × Unit))) × (Int × (Int × (Int × (Int × Unit)))))))))) × ((((Int × (Bool × (Int × (Int × ((List (Int × ((Int × (Int × ((List Int) × Unit))) × Unit))) × (Int × (Int × (Int × (Int × Unit))))))))) × Unit) → Option Bool) × Unit))) : Option ((Int × Unit) × Unit) :=
  slices_IndexFunc_impl_Node_impl_Node.l2 k (fun e2 =>
    some (e2, ())) (fun e3 =>
    some (((-(1 : Int)), ()), ())) k x.1 x.2.1 (((List.length x.1) : Nat) : Int) (0 : Int)
def slices_IndexFunc_impl_Node_impl_Node.hd : Hints := ⟨[(2, ⟨[0, 1, 7, 8], []⟩)], [(0, []), (1, [0, 1, 7, 8])], [4], [0, 1, 5, 7, 8], []⟩
def slices_IndexFunc_impl_Node_impl_Node.lps (k : Nat) : List (Nat × Lp slices_IndexFunc_impl_Node_impl_Node.sg.Out) := [(2, ⟨[.l kNode, .f (.pair kNode .unit) .bool, .i, .i], fun x => (fun x0 x1 x2 x3 => ⟨[(0, .v false [.fz kNode x0]), (1, .v false [.fnv (.pair kNode .unit) .bool x1]), (7, .v false [.int .i64 x2]), (8, .v false [.int .i64 x3])], [], []⟩) x.1 x.2.1 x.2.2.1 x.2.2.2.1, fun C n x => slices_IndexFunc_impl_Node_impl_Node.l2 k (fun y => C .ret ((fun y0 => ⟨[(4, .v false [.int .i64 y0])], [], []⟩) y.1)) (fun _ => C (.exit 0) ⟨[], [], []⟩) n x.1 x.2.1 x.2.2.1 x.2.2.2.1⟩)]
theorem slices_IndexFunc_impl_Node_impl_Node.loops (k : Nat) : LoopsOk slices_IndexFunc_impl_Node_impl_Node.E k slices_IndexFunc_impl_Node_impl_Node.hd (slices_IndexFunc_impl_Node_impl_Node.lps k) (loopsOf (Go.Proofs.Tryz.f115.body.getD .skip)) := ⟨⟨fun _ _ => rfl, fun _ _ _ => by kernel_rfl, fun _ => ⟨rfl, rfl⟩⟩, trivial⟩
theorem slices_IndexFunc_impl_Node_impl_Node.den (k : Nat) (x : Sig.In slices_IndexFunc_impl_Node_impl_Node.sg.ps) : denFn slices_IndexFunc_impl_Node_impl_Node.E k Go.Proofs.Tryz.f115 slices_IndexFunc_impl_Node_impl_Node.sg slices_IndexFunc_impl_Node_impl_Node.hd (runL k slices_IndexFunc_impl_Node_impl_Node.hd (slices_IndexFunc_impl_Node_impl_Node.lps k)) x = slices_IndexFunc_impl_Node_impl_Node.F k x := by kernel_rfl
theorem slices_IndexFunc_impl_Node_impl_Node.ok (k : Nat) : Contract Tryz.prog 115 slices_IndexFunc_impl_Node_impl_Node.sg (slices_IndexFunc_impl_Node_impl_Node.F k) := ok_of (E := slices_IndexFunc_impl_Node_impl_Node.E) (tysOk _ _) (eqsOk _) trivial Tryz.func115 rfl (by kernel_rfl) (slices_IndexFunc_impl_Node_impl_Node.loops k) (slices_IndexFunc_impl_Node_impl_Node.den k)
def slices_ContainsFunc_impl_Node_impl_Node.sg : Sig := ⟨[.b (.sl kNode), .f (.pair kNode .unit) .bool], [(.bool, .rd)]⟩
def slices_ContainsFunc_impl_Node_impl_Node.E : Env := ⟨tys, bys, [(115, ⟨slices_IndexFunc_impl_Node_impl_Node.sg, slices_IndexFunc_impl_Node_impl_Node.F⟩)], eqs⟩
def slices_ContainsFunc_impl_Node_impl_Node.F (k : Nat) (x : ((List (Int × (Bool × (Int × (Int × ((List (Int × ((Int × (Int × ((List Int) × Unit))) × Unit))) × (Int × (Int × (Int × (Int × Unit)))))))))) × ((((Int × (Bool × (Int × (Int × ((List (Int × ((Int × (Int × ((List Int) × Unit))) × Unit))) × (Int × (Int × (Int × (Int × Unit))))))))) × Unit) → Option Bool) × Unit))) : Option ((Bool × Unit) × Unit) :=
  (slices_IndexFunc_impl_Node_impl_Node.F k x).bind fun y0 =>
  some (((decide ((y0.1.1 ≥ (0 : Int)))), ()), ())
def slices_ContainsFunc_impl_Node_impl_Node.hd : Hints := ⟨[], [], [4], [0, 1], []⟩
def slices_ContainsFunc_impl_Node_impl_Node.lps (k : Nat) : List (Nat × Lp slices_ContainsFunc_impl_Node_impl_Node.sg.Out) := []
theorem slices_ContainsFunc_impl_Node_impl_Node.loops (k : Nat) : LoopsOk slices_ContainsFunc_impl_Node_impl_Node.E k slices_ContainsFunc_impl_Node_impl_Node.hd (slices_ContainsFunc_impl_Node_impl_Node.lps k) (loopsOf (Go.Proofs.Tryz.f79.body.getD .skip)) := trivial
theorem slices_ContainsFunc_impl_Node_impl_Node.den (k : Nat) (x : Sig.In slices_ContainsFunc_impl_Node_impl_Node.sg.ps) : denFn slices_ContainsFunc_impl_Node_impl_Node.E k Go.Proofs.Tryz.f79 slices_ContainsFunc_impl_Node_impl_Node.sg slices_ContainsFunc_impl_Node_impl_Node.hd (runL k slices_ContainsFunc_impl_Node_impl_Node.hd (slices_ContainsFunc_impl_Node_impl_Node.lps k)) x = slices_ContainsFunc_impl_Node_impl_Node.F k x := by kernel_rfl
theorem slices_ContainsFunc_impl_Node_impl_Node.ok (k : Nat) : Contract Tryz.prog 79 slices_ContainsFunc_impl_Node_impl_Node.sg (slices_ContainsFunc_impl_Node_impl_Node.F k) := ok_of (E := slices_ContainsFunc_impl_Node_impl_Node.E) (tysOk _ _) (eqsOk _) ⟨slices_IndexFunc_impl_Node_impl_Node.ok k, trivial⟩ Tryz.func79 rfl (by kernel_rfl) (slices_ContainsFunc_impl_Node_impl_Node.loops k) (slices_ContainsFunc_impl_Node_impl_Node.den k)
def impl_Pair_sealedRight_1.sg : Sig := ⟨[.b kNode, .r (.int .i64), .rr kPair], [(.bool, .rd)]⟩
def impl_Pair_sealedRight_1.E : Env := ⟨tys, bys, [(77, ⟨impl_sameEntries.sg, impl_sameEntries.F⟩)], eqs⟩
def impl_Pair_sealedRight_1.F (k : Nat) (x : ((Int × (Bool × (Int × (Int × ((List (Int × ((Int × (Int × ((List Int) × Unit))) × Unit))) × (Int × (Int × (Int × (Int × Unit))))))))) × (Int × ((((Int × (Int × (Int × Unit))) × (Int × ((List ((Int × (Int × Unit)) × (Int × (Int × (Int × (Bool × (Int × (Int × Unit)))))))) × ((List ((Int × (Int × Unit)) × (Int × (Int × (Int × (Bool × (Int × (Int × Unit)))))))) × Unit)))) × ((List (Int × (Bool × (Int × (Int × ((List (Int × ((Int × (Int × ((List Int) × Unit))) × Unit))) × (Int × (Int × (Int × (Int × Unit)))))))))) × ((List (Int × ((List Int) × (Int × ((List Int) × Unit))))) × ((List (Int × (Int × (Int × (Int × (Int × (Bool × ((Int × ((Int × (Int × ((List Int) × Unit))) × Unit)) × Unit)))))))) × ((List (Int × ((Int × (Int × ((List Int) × Unit))) × Unit))) × Unit))))) × Unit)))) : Option ((Bool × Unit) × Unit) :=
  bif (decide ((x.1.2.2.2.2.2.1 < x.2.1))) then
  (some ((true, ()), ()))
  else bif (decide (((0 : Int) ≤ x.2.1))) then
    (bif (decide ((x.2.1 ≤ (((List.length x.1.2.2.2.2.1) : Nat) : Int)))) then
      (bif (decide (((0 : Int) ≤ x.2.1))) then
        (Go.Dn.share (Go.Dn.cutL x.1.2.2.2.2.1 (0 : Int) (x.2.1 - (0 : Int))) fun s0 =>
          (impl_sameEntries.F k (s0, x.2.2.1.2.2.2.2)).bind fun y1 =>
          some (((!y1.1.1), ()), ()))
        else none)
      else none)
    else none
def impl_Pair_sealedRight_1.hd : Hints := ⟨[], [], [4], [0, 1, 2, 3], [(1, [0, 1, 0, 7, 15, 31, 63, 31, 255, 31, 543, 1567, 3615, 8191, 16383, 32767, 65535])]⟩
def impl_Pair_sealedRight_1.lps (k : Nat) : List (Nat × Lp impl_Pair_sealedRight_1.sg.Out) := []
theorem impl_Pair_sealedRight_1.loops (k : Nat) : LoopsOk impl_Pair_sealedRight_1.E k impl_Pair_sealedRight_1.hd (impl_Pair_sealedRight_1.lps k) (loopsOf (Go.Proofs.Tryz.f80.body.getD .skip)) := trivial
theorem impl_Pair_sealedRight_1.den (k : Nat) (x : Sig.In impl_Pair_sealedRight_1.sg.ps) : denFn impl_Pair_sealedRight_1.E k Go.Proofs.Tryz.f80 impl_Pair_sealedRight_1.sg impl_Pair_sealedRight_1.hd (runL k impl_Pair_sealedRight_1.hd (impl_Pair_sealedRight_1.lps k)) x = impl_Pair_sealedRight_1.F k x := by kernel_rfl
theorem impl_Pair_sealedRight_1.ok (k : Nat) : Contract Tryz.prog 80 impl_Pair_sealedRight_1.sg (impl_Pair_sealedRight_1.F k) := ok_of (E := impl_Pair_sealedRight_1.E) (tysOk _ _) (eqsOk _) ⟨impl_sameEntries.ok k, trivial⟩ Tryz.func80 rfl (by kernel_rfl) (impl_Pair_sealedRight_1.loops k) (impl_Pair_sealedRight_1.den k)
def impl_Pair_sealedRight.sg : Sig := ⟨[.r kPair], [(.bool, .rd)]⟩
def impl_Pair_sealedRight.E : Env := ⟨tys, bys, [(78, ⟨impl_size_impl_Entry.sg, impl_size_impl_Entry.F⟩), (79, ⟨slices_ContainsFunc_impl_Node_impl_Node.sg, slices_ContainsFunc_impl_Node_impl_Node.F⟩), (80, ⟨impl_Pair_sealedRight_1.sg, impl_Pair_sealedRight_1.F⟩)], eqs⟩
def impl_Pair_sealedRight.F (k : Nat) (x : ((((Int × (Int × (Int × Unit))) × (Int × ((List ((Int × (Int × Unit)) × (Int × (Int × (Int × (Bool × (Int × (Int × Unit)))))))) × ((List ((Int × (Int × Unit)) × (Int × (Int × (Int × (Bool × (Int × (Int × Unit)))))))) × Unit)))) × ((List (Int × (Bool × (Int × (Int × ((List (Int × ((Int × (Int × ((List Int) × Unit))) × Unit))) × (Int × (Int × (Int × (Int × Unit)))))))))) × ((List (Int × ((List Int) × (Int × ((List Int) × Unit))))) × ((List (Int × (Int × (Int × (Int × (Int × (Bool × ((Int × ((Int × (Int × ((List Int) × Unit))) × Unit)) × Unit)))))))) × ((List (Int × ((Int × (Int × ((List Int) × Unit))) × Unit))) × Unit))))) × Unit)) : Option ((Bool × Unit) × Unit) :=
  (impl_size_impl_Entry.F k x.1.2.2.2.2).bind fun y0 =>
  (slices_ContainsFunc_impl_Node_impl_Node.F k (x.1.2.1, (fun q => (Option.bind (impl_Pair_sealedRight_1.F k (q.1, y0.1.1, x)) (fun y => (Option.some y.1.1)))), ())).bind fun y1 =>
  some (((!y1.1.1), ()), ())
def impl_Pair_sealedRight.hd : Hints := ⟨[], [], [2], [0, 1, 3], []⟩
def impl_Pair_sealedRight.lps (k : Nat) : List (Nat × Lp impl_Pair_sealedRight.sg.Out) := []
theorem impl_Pair_sealedRight.loops (k : Nat) : LoopsOk impl_Pair_sealedRight.E k impl_Pair_sealedRight.hd (impl_Pair_sealedRight.lps k) (loopsOf (Go.Proofs.Tryz.f40.body.getD .skip)) := trivial
theorem impl_Pair_sealedRight.den (k : Nat) (x : Sig.In impl_Pair_sealedRight.sg.ps) : denFn impl_Pair_sealedRight.E k Go.Proofs.Tryz.f40 impl_Pair_sealedRight.sg impl_Pair_sealedRight.hd (runL k impl_Pair_sealedRight.hd (impl_Pair_sealedRight.lps k)) x = impl_Pair_sealedRight.F k x := by kernel_rfl
theorem impl_Pair_sealedRight.ok (k : Nat) : Contract Tryz.prog 40 impl_Pair_sealedRight.sg (impl_Pair_sealedRight.F k) := ok_of (E := impl_Pair_sealedRight.E) (tysOk _ _) (eqsOk _) ⟨impl_size_impl_Entry.ok k, slices_ContainsFunc_impl_Node_impl_Node.ok k, impl_Pair_sealedRight_1.ok k, trivial⟩ Tryz.func40 rfl (by kernel_rfl) (impl_Pair_sealedRight.loops k) (impl_Pair_sealedRight.den k)
def impl_SealedRight.sg : Sig := ⟨[.b kPair], [(.bool, .rd)]⟩
def impl_SealedRight.E : Env := ⟨tys, bys, [(30, ⟨impl_PairFault.sg, impl_PairFault.F⟩), (40, ⟨impl_Pair_sealedRight.sg, impl_Pair_sealedRight.F⟩)], eqs⟩
def impl_SealedRight.F (k : Nat) (x : ((((Int × (Int × (Int × Unit))) × (Int × ((List ((Int × (Int × Unit)) × (Int × (Int × (Int × (Bool × (Int × (Int × Unit)))))))) × ((List ((Int × (Int × Unit)) × (Int × (Int × (Int × (Bool × (Int × (Int × Unit)))))))) × Unit)))) × ((List (Int × (Bool × (Int × (Int × ((List (Int × ((Int × (Int × ((List Int) × Unit))) × Unit))) × (Int × (Int × (Int × (Int × Unit)))))))))) × ((List (Int × ((List Int) × (Int × ((List Int) × Unit))))) × ((List (Int × (Int × (Int × (Int × (Int × (Bool × ((Int × ((Int × (Int × ((List Int) × Unit))) × Unit)) × Unit)))))))) × ((List (Int × ((Int × (Int × ((List Int) × Unit))) × Unit))) × Unit))))) × Unit)) : Option ((Bool × Unit) × Unit) :=
  (impl_PairFault.F k x).bind fun y0 =>
  bif (y0.1.1 == (0 : Int)) then
  ((impl_Pair_sealedRight.F k x).bind fun y1 =>
    some y1)
  else some ((false, ()), ())
def impl_SealedRight.hd : Hints := ⟨[], [], [2], [0, 1], []⟩
def impl_SealedRight.lps (k : Nat) : List (Nat × Lp impl_SealedRight.sg.Out) := []
theorem impl_SealedRight.loops (k : Nat) : LoopsOk impl_SealedRight.E k impl_SealedRight.hd (impl_SealedRight.lps k) (loopsOf (Go.Proofs.Tryz.f15.body.getD .skip)) := trivial
theorem impl_SealedRight.den (k : Nat) (x : Sig.In impl_SealedRight.sg.ps) : denFn impl_SealedRight.E k Go.Proofs.Tryz.f15 impl_SealedRight.sg impl_SealedRight.hd (runL k impl_SealedRight.hd (impl_SealedRight.lps k)) x = impl_SealedRight.F k x := by kernel_rfl
theorem impl_SealedRight.ok (k : Nat) : Contract Tryz.prog 15 impl_SealedRight.sg (impl_SealedRight.F k) := ok_of (E := impl_SealedRight.E) (tysOk _ _) (eqsOk _) ⟨impl_PairFault.ok k, impl_Pair_sealedRight.ok k, trivial⟩ Tryz.func15 rfl (by kernel_rfl) (impl_SealedRight.loops k) (impl_SealedRight.den k)
def laws_FnExactSealedRight.sg : Sig := ⟨[.b kPair], [(.bool, .rd)]⟩
def laws_FnExactSealedRight.E : Env := ⟨tys, bys, [(7, ⟨laws_szPair.sg, laws_szPair.F⟩), (9, ⟨laws_toPair.sg, laws_toPair.F⟩), (11, ⟨laws_eqPair.sg, laws_eqPair.F⟩), (14, ⟨spec_SealedRight.sg, spec_SealedRight.F⟩), (15, ⟨impl_SealedRight.sg, impl_SealedRight.F⟩)], eqs⟩
def laws_FnExactSealedRight.F (k : Nat) (x : ((((Int × (Int × (Int × Unit))) × (Int × ((List ((Int × (Int × Unit)) × (Int × (Int × (Int × (Bool × (Int × (Int × Unit)))))))) × ((List ((Int × (Int × Unit)) × (Int × (Int × (Int × (Bool × (Int × (Int × Unit)))))))) × Unit)))) × ((List (Int × (Bool × (Int × (Int × ((List (Int × ((Int × (Int × ((List Int) × Unit))) × Unit))) × (Int × (Int × (Int × (Int × Unit)))))))))) × ((List (Int × ((List Int) × (Int × ((List Int) × Unit))))) × ((List (Int × (Int × (Int × (Int × (Int × (Bool × ((Int × ((Int × (Int × ((List Int) × Unit))) × Unit)) × Unit)))))))) × ((List (Int × ((Int × (Int × ((List Int) × Unit))) × Unit))) × Unit))))) × Unit)) : Option ((Bool × Unit) × Unit) :=
  (laws_szPair.F k (x.1, (1048576 : Int), ())).bind fun y0 =>
  bif (decide ((y0.1.1 < (0 : Int)))) then
  (some ((true, ()), ()))
  else (laws_toPair.F k x).bind fun y1 =>
    (spec_SealedRight.F k y1.1).bind fun y2 =>
    (laws_toPair.F k x).bind fun y3 =>
    (impl_SealedRight.F k y3.1).bind fun y4 =>
    bif (!(y4.1.1 == y2.1.1)) then
    (some ((false, ()), ()))
    else (laws_toPair.F k x).bind fun y5 =>
      (laws_eqPair.F k (y3.1.1, y5.1)).bind fun y6 =>
      bif (!y6.1.1) then
      (some ((false, ()), ()))
      else some ((true, ()), ())
def laws_FnExactSealedRight.hd : Hints := ⟨[], [], [2], [0, 1, 3, 4, 5, 6], [(10, [0, 0, 2, 7, 15])]⟩
def laws_FnExactSealedRight.lps (k : Nat) : List (Nat × Lp laws_FnExactSealedRight.sg.Out) := []
theorem laws_FnExactSealedRight.loops (k : Nat) : LoopsOk laws_FnExactSealedRight.E k laws_FnExactSealedRight.hd (laws_FnExactSealedRight.lps k) (loopsOf (Go.Proofs.Tryz.f5.body.getD .skip)) := trivial
theorem laws_FnExactSealedRight.den (k : Nat) (x : Sig.In laws_FnExactSealedRight.sg.ps) : denFn laws_FnExactSealedRight.E k Go.Proofs.Tryz.f5 laws_FnExactSealedRight.sg laws_FnExactSealedRight.hd (runL k laws_FnExactSealedRight.hd (laws_FnExactSealedRight.lps k)) x = laws_FnExactSealedRight.F k x := by kernel_rfl
theorem laws_FnExactSealedRight.ok (k : Nat) : Contract Tryz.prog 5 laws_FnExactSealedRight.sg (laws_FnExactSealedRight.F k) := ok_of (E := laws_FnExactSealedRight.E) (tysOk _ _) (eqsOk _) ⟨laws_szPair.ok k, laws_toPair.ok k, laws_eqPair.ok k, spec_SealedRight.ok k, impl_SealedRight.ok k, trivial⟩ Tryz.func5 rfl (by kernel_rfl) (laws_FnExactSealedRight.loops k) (laws_FnExactSealedRight.den k)

end
end Go.Proofs.YtliaeahjdenlfaaGreat
