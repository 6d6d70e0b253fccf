/- That both nodes of a pair have for sure what is sealed, the program's SealedRight and the reference's SealedRight tell alike, whatever pair there is. -/
import Derived.Test.YtliaeahjdenlfaaGreatRows
import Derived.WalkKit
import Derived.ProofKit
import Derived.OpenShut
import Derived.JoinedCond
import Derived.Carry
import Derived.ChangeOld
import Derived.Test.YtliaeahjdenlfaaGreatYtlSR20
import Derived.Test.YtliaeahjdenlfaaGreatYtlSR21
import Derived.Test.YtliaeahjdenlfaaGreatYtlSR22
import Derived.Test.YtliaeahjdenlfaaGreatYtlSR23
set_option linter.unusedVariables false
set_option linter.unusedSimpArgs false
namespace Go.Proofs.YtliaeahjdenlfaaGreat
open Go Go.Dn
theorem laws_toByteS.eq (k : Nat) (x : List Int × Unit) (hb : K.big (.sl (.int .u8)) x.1 ≤ 4294967296) (hk : K.big (.sl (.int .u8)) x.1 < k) : laws_toByteS.F k x = some ((x.1, ()), ()) := by
  obtain ⟨x, _⟩ := x
  simp only at hb hk ⊢
  have hl : x.length ≤ K.big (.sl (.int .u8)) x := big_len (e := (.int .u8)) x
  unfold laws_toByteS.F
  simp only [Int.le_refl, decide_true, cond_true, Int.toNat_natCast]
  rw [roomy_le 4294967296 (by omega) (by decide), cond_true]
  refine loop_inv (len := x.length) (fun n i s => laws_toByteS.l3 k _ n x i s) (fun i s => s.length = x.length ∧ ∀ j, j < i → s[j]? = x[j]?) _ ?_ ?_ k 0 _ (Nat.zero_le _) ⟨by simp, fun j h => by omega⟩ (by omega)
  · rintro n s ⟨h1, h2⟩
    simp only [laws_toByteS.l3, lt_dec_f, cond_false]
    rw [all_eq h1 h2]
  · rintro n i s hi ⟨h1, h2⟩
    have hm : K.big (.int .u8) x[i] + 1 ≤ K.big (.sl (.int .u8)) x := big_mem (e := (.int .u8)) (l := x) (List.getElem_mem hi)
    refine ⟨s.set i x[i], ?_, set_keep h1 hi h2 (by simp [hi])⟩
    simp only [laws_toByteS.l3, lt_dec hi, inBn hi, cond_true, share_eq, getD_get _ hi]
    simp only [Option.bind_some, h1, inBn hi, cond_true, Int.toNat_natCast]
    rw [next_i (by omega)]
theorem laws_toEvent.eq (k : Nat) (x : (Int × (Int × (List Int × Unit))) × Unit) (hb : K.big kEvent x.1 ≤ 4294967296) (hk : K.big kEvent x.1 < k) : laws_toEvent.F k x = some ((x.1, ()), ()) := by
  obtain ⟨x, _⟩ := x
  unfold laws_toEvent.F
  rw [laws_toByteS.eq k _ (by (try simp only [bigp, bigi, bigb, bigu, bigs, kerrorAddressString, kPrefix, kConfig, kboundsError, kEvent, kWire, kAttrs, kEntry, kRule, kWireResult, kSettings, kNode, kMail, kPair] at *); omega) (by (try simp only [bigp, bigi, bigb, bigu, bigs, kerrorAddressString, kPrefix, kConfig, kboundsError, kEvent, kWire, kAttrs, kEntry, kRule, kWireResult, kSettings, kNode, kMail, kPair] at *); omega)]
  simp only [Option.bind_some]
theorem laws_toEntry.eq (k : Nat) (x : (Int × ((Int × (Int × (List Int × Unit))) × Unit)) × Unit) (hb : K.big kEntry x.1 ≤ 4294967296) (hk : K.big kEntry x.1 < k) : laws_toEntry.F k x = some ((x.1, ()), ()) := by
  obtain ⟨x, _⟩ := x
  unfold laws_toEntry.F
  rw [laws_toEvent.eq k _ (by (try simp only [bigp, bigi, bigb, bigu, bigs, kerrorAddressString, kPrefix, kConfig, kboundsError, kEvent, kWire, kAttrs, kEntry, kRule, kWireResult, kSettings, kNode, kMail, kPair] at *); omega) (by (try simp only [bigp, bigi, bigb, bigu, bigs, kerrorAddressString, kPrefix, kConfig, kboundsError, kEvent, kWire, kAttrs, kEntry, kRule, kWireResult, kSettings, kNode, kMail, kPair] at *); omega)]
  simp only [Option.bind_some]
theorem laws_toEntryS.eq (k : Nat) (x : List (Int × ((Int × (Int × (List Int × Unit))) × Unit)) × Unit) (hb : K.big (.sl kEntry) x.1 ≤ 4294967296) (hk : K.big (.sl kEntry) x.1 < k) : laws_toEntryS.F k x = some ((x.1, ()), ()) := by
  obtain ⟨x, _⟩ := x
  simp only at hb hk ⊢
  have hl : x.length ≤ K.big (.sl kEntry) x := big_len (e := kEntry) x
  unfold laws_toEntryS.F
  simp only [Int.le_refl, decide_true, cond_true, Int.toNat_natCast]
  rw [roomy_le 4294967296 (by omega) (by decide), cond_true]
  refine loop_inv (len := x.length) (fun n i s => laws_toEntryS.l3 k _ n x i s) (fun i s => s.length = x.length ∧ ∀ j, j < i → s[j]? = x[j]?) _ ?_ ?_ k 0 _ (Nat.zero_le _) ⟨by simp, fun j h => by omega⟩ (by omega)
  · rintro n s ⟨h1, h2⟩
    simp only [laws_toEntryS.l3, lt_dec_f, cond_false]
    rw [all_eq h1 h2]
  · rintro n i s hi ⟨h1, h2⟩
    have hm : K.big kEntry x[i] + 1 ≤ K.big (.sl kEntry) x := big_mem (e := kEntry) (l := x) (List.getElem_mem hi)
    refine ⟨s.set i x[i], ?_, set_keep h1 hi h2 (by simp [hi])⟩
    simp only [laws_toEntryS.l3, lt_dec hi, inBn hi, cond_true, share_eq, getD_get _ hi]
    rw [laws_toEntry.eq k _ (by simp only; omega) (by simp only; omega)]
    simp only [Option.bind_some, h1, inBn hi, cond_true, Int.toNat_natCast]
    rw [next_i (by omega)]
theorem laws_toConfig.eq (k : Nat) (x : (Int × (Int × (Int × Unit))) × Unit) (hb : K.big kConfig x.1 ≤ 4294967296) (hk : K.big kConfig x.1 < k) : laws_toConfig.F k x = some ((x.1, ()), ()) := by
  obtain ⟨x, _⟩ := x
  unfold laws_toConfig.F
  rfl
theorem laws_toPrefix.eq (k : Nat) (x : (Int × (Int × Unit)) × Unit) (hb : K.big kPrefix x.1 ≤ 4294967296) (hk : K.big kPrefix x.1 < k) : laws_toPrefix.F k x = some ((x.1, ()), ()) := by
  obtain ⟨x, _⟩ := x
  unfold laws_toPrefix.F
  rfl
theorem laws_toRule.eq (k : Nat) (x : ((Int × (Int × Unit)) × (Int × (Int × (Int × (Bool × (Int × (Int × Unit))))))) × Unit) (hb : K.big kRule x.1 ≤ 4294967296) (hk : K.big kRule x.1 < k) : laws_toRule.F k x = some ((x.1, ()), ()) := by
  obtain ⟨x, _⟩ := x
  unfold laws_toRule.F
  rw [laws_toPrefix.eq k _ (by (try simp only [bigp, bigi, bigb, bigu, bigs, kerrorAddressString, kPrefix, kConfig, kboundsError, kEvent, kWire, kAttrs, kEntry, kRule, kWireResult, kSettings, kNode, kMail, kPair] at *); omega) (by (try simp only [bigp, bigi, bigb, bigu, bigs, kerrorAddressString, kPrefix, kConfig, kboundsError, kEvent, kWire, kAttrs, kEntry, kRule, kWireResult, kSettings, kNode, kMail, kPair] at *); omega)]
  simp only [Option.bind_some]
theorem laws_toRuleS.eq (k : Nat) (x : List ((Int × (Int × Unit)) × (Int × (Int × (Int × (Bool × (Int × (Int × Unit))))))) × Unit) (hb : K.big (.sl kRule) x.1 ≤ 4294967296) (hk : K.big (.sl kRule) x.1 < k) : laws_toRuleS.F k x = some ((x.1, ()), ()) := by
  obtain ⟨x, _⟩ := x
  simp only at hb hk ⊢
  have hl : x.length ≤ K.big (.sl kRule) x := big_len (e := kRule) x
  unfold laws_toRuleS.F
  simp only [Int.le_refl, decide_true, cond_true, Int.toNat_natCast]
  rw [roomy_le 4294967296 (by omega) (by decide), cond_true]
  refine loop_inv (len := x.length) (fun n i s => laws_toRuleS.l3 k _ n x i s) (fun i s => s.length = x.length ∧ ∀ j, j < i → s[j]? = x[j]?) _ ?_ ?_ k 0 _ (Nat.zero_le _) ⟨by simp, fun j h => by omega⟩ (by omega)
  · rintro n s ⟨h1, h2⟩
    simp only [laws_toRuleS.l3, lt_dec_f, cond_false]
    rw [all_eq h1 h2]
  · rintro n i s hi ⟨h1, h2⟩
    have hm : K.big kRule x[i] + 1 ≤ K.big (.sl kRule) x := big_mem (e := kRule) (l := x) (List.getElem_mem hi)
    refine ⟨s.set i x[i], ?_, set_keep h1 hi h2 (by simp [hi])⟩
    simp only [laws_toRuleS.l3, lt_dec hi, inBn hi, cond_true, share_eq, getD_get _ hi]
    rw [laws_toRule.eq k _ (by simp only; omega) (by simp only; omega)]
    simp only [Option.bind_some, h1, inBn hi, cond_true, Int.toNat_natCast]
    rw [next_i (by omega)]
theorem laws_toSettings.eq (k : Nat) (x : ((Int × (Int × (Int × Unit))) × (Int × (List ((Int × (Int × Unit)) × (Int × (Int × (Int × (Bool × (Int × (Int × Unit))))))) × (List ((Int × (Int × Unit)) × (Int × (Int × (Int × (Bool × (Int × (Int × Unit))))))) × Unit)))) × Unit) (hb : K.big kSettings x.1 ≤ 4294967296) (hk : K.big kSettings x.1 < k) : laws_toSettings.F k x = some ((x.1, ()), ()) := by
  obtain ⟨x, _⟩ := x
  unfold laws_toSettings.F
  rw [laws_toConfig.eq k _ (by (try simp only [bigp, bigi, bigb, bigu, bigs, kerrorAddressString, kPrefix, kConfig, kboundsError, kEvent, kWire, kAttrs, kEntry, kRule, kWireResult, kSettings, kNode, kMail, kPair] at *); omega) (by (try simp only [bigp, bigi, bigb, bigu, bigs, kerrorAddressString, kPrefix, kConfig, kboundsError, kEvent, kWire, kAttrs, kEntry, kRule, kWireResult, kSettings, kNode, kMail, kPair] at *); omega)]
  simp only [Option.bind_some]
  rw [laws_toRuleS.eq k _ (by (try simp only [bigp, bigi, bigb, bigu, bigs, kerrorAddressString, kPrefix, kConfig, kboundsError, kEvent, kWire, kAttrs, kEntry, kRule, kWireResult, kSettings, kNode, kMail, kPair] at *); omega) (by (try simp only [bigp, bigi, bigb, bigu, bigs, kerrorAddressString, kPrefix, kConfig, kboundsError, kEvent, kWire, kAttrs, kEntry, kRule, kWireResult, kSettings, kNode, kMail, kPair] at *); omega)]
  simp only [Option.bind_some]
  rw [laws_toRuleS.eq k _ (by (try simp only [bigp, bigi, bigb, bigu, bigs, kerrorAddressString, kPrefix, kConfig, kboundsError, kEvent, kWire, kAttrs, kEntry, kRule, kWireResult, kSettings, kNode, kMail, kPair] at *); omega) (by (try simp only [bigp, bigi, bigb, bigu, bigs, kerrorAddressString, kPrefix, kConfig, kboundsError, kEvent, kWire, kAttrs, kEntry, kRule, kWireResult, kSettings, kNode, kMail, kPair] at *); omega)]
  simp only [Option.bind_some]
theorem laws_toMail.eq (k : Nat) (x : (Int × (Int × (Int × (Int × (Int × (Bool × ((Int × ((Int × (Int × (List Int × Unit))) × Unit)) × Unit))))))) × Unit) (hb : K.big kMail x.1 ≤ 4294967296) (hk : K.big kMail x.1 < k) : laws_toMail.F k x = some ((x.1, ()), ()) := by
  obtain ⟨x, _⟩ := x
  unfold laws_toMail.F
  rw [laws_toEntry.eq k _ (by (try simp only [bigp, bigi, bigb, bigu, bigs, kerrorAddressString, kPrefix, kConfig, kboundsError, kEvent, kWire, kAttrs, kEntry, kRule, kWireResult, kSettings, kNode, kMail, kPair] at *); omega) (by (try simp only [bigp, bigi, bigb, bigu, bigs, kerrorAddressString, kPrefix, kConfig, kboundsError, kEvent, kWire, kAttrs, kEntry, kRule, kWireResult, kSettings, kNode, kMail, kPair] at *); omega)]
  simp only [Option.bind_some]
theorem laws_toMailS.eq (k : Nat) (x : List (Int × (Int × (Int × (Int × (Int × (Bool × ((Int × ((Int × (Int × (List Int × Unit))) × Unit)) × Unit))))))) × Unit) (hb : K.big (.sl kMail) x.1 ≤ 4294967296) (hk : K.big (.sl kMail) x.1 < k) : laws_toMailS.F k x = some ((x.1, ()), ()) := by
  obtain ⟨x, _⟩ := x
  simp only at hb hk ⊢
  have hl : x.length ≤ K.big (.sl kMail) x := big_len (e := kMail) x
  unfold laws_toMailS.F
  simp only [Int.le_refl, decide_true, cond_true, Int.toNat_natCast]
  rw [roomy_le 4294967296 (by omega) (by decide), cond_true]
  refine loop_inv (len := x.length) (fun n i s => laws_toMailS.l3 k _ n x i s) (fun i s => s.length = x.length ∧ ∀ j, j < i → s[j]? = x[j]?) _ ?_ ?_ k 0 _ (Nat.zero_le _) ⟨by simp, fun j h => by omega⟩ (by omega)
  · rintro n s ⟨h1, h2⟩
    simp only [laws_toMailS.l3, lt_dec_f, cond_false]
    rw [all_eq h1 h2]
  · rintro n i s hi ⟨h1, h2⟩
    have hm : K.big kMail x[i] + 1 ≤ K.big (.sl kMail) x := big_mem (e := kMail) (l := x) (List.getElem_mem hi)
    refine ⟨s.set i x[i], ?_, set_keep h1 hi h2 (by simp [hi])⟩
    simp only [laws_toMailS.l3, lt_dec hi, inBn hi, cond_true, share_eq, getD_get _ hi]
    rw [laws_toMail.eq k _ (by simp only; omega) (by simp only; omega)]
    simp only [Option.bind_some, h1, inBn hi, cond_true, Int.toNat_natCast]
    rw [next_i (by omega)]
theorem laws_toWire.eq (k : Nat) (x : (Int × (List Int × (Int × (List Int × Unit)))) × Unit) (hb : K.big kWire x.1 ≤ 4294967296) (hk : K.big kWire x.1 < k) : laws_toWire.F k x = some ((x.1, ()), ()) := by
  obtain ⟨x, _⟩ := x
  unfold laws_toWire.F
  rw [laws_toByteS.eq k _ (by (try simp only [bigp, bigi, bigb, bigu, bigs, kerrorAddressString, kPrefix, kConfig, kboundsError, kEvent, kWire, kAttrs, kEntry, kRule, kWireResult, kSettings, kNode, kMail, kPair] at *); omega) (by (try simp only [bigp, bigi, bigb, bigu, bigs, kerrorAddressString, kPrefix, kConfig, kboundsError, kEvent, kWire, kAttrs, kEntry, kRule, kWireResult, kSettings, kNode, kMail, kPair] at *); omega)]
  simp only [Option.bind_some]
  rw [laws_toByteS.eq k _ (by (try simp only [bigp, bigi, bigb, bigu, bigs, kerrorAddressString, kPrefix, kConfig, kboundsError, kEvent, kWire, kAttrs, kEntry, kRule, kWireResult, kSettings, kNode, kMail, kPair] at *); omega) (by (try simp only [bigp, bigi, bigb, bigu, bigs, kerrorAddressString, kPrefix, kConfig, kboundsError, kEvent, kWire, kAttrs, kEntry, kRule, kWireResult, kSettings, kNode, kMail, kPair] at *); omega)]
  simp only [Option.bind_some]
theorem laws_toWireS.eq (k : Nat) (x : List (Int × (List Int × (Int × (List Int × Unit)))) × Unit) (hb : K.big (.sl kWire) x.1 ≤ 4294967296) (hk : K.big (.sl kWire) x.1 < k) : laws_toWireS.F k x = some ((x.1, ()), ()) := by
  obtain ⟨x, _⟩ := x
  simp only at hb hk ⊢
  have hl : x.length ≤ K.big (.sl kWire) x := big_len (e := kWire) x
  unfold laws_toWireS.F
  simp only [Int.le_refl, decide_true, cond_true, Int.toNat_natCast]
  rw [roomy_le 4294967296 (by omega) (by decide), cond_true]
  refine loop_inv (len := x.length) (fun n i s => laws_toWireS.l3 k _ n x i s) (fun i s => s.length = x.length ∧ ∀ j, j < i → s[j]? = x[j]?) _ ?_ ?_ k 0 _ (Nat.zero_le _) ⟨by simp, fun j h => by omega⟩ (by omega)
  · rintro n s ⟨h1, h2⟩
    simp only [laws_toWireS.l3, lt_dec_f, cond_false]
    rw [all_eq h1 h2]
  · rintro n i s hi ⟨h1, h2⟩
    have hm : K.big kWire x[i] + 1 ≤ K.big (.sl kWire) x := big_mem (e := kWire) (l := x) (List.getElem_mem hi)
    refine ⟨s.set i x[i], ?_, set_keep h1 hi h2 (by simp [hi])⟩
    simp only [laws_toWireS.l3, lt_dec hi, inBn hi, cond_true, share_eq, getD_get _ hi]
    rw [laws_toWire.eq k _ (by simp only; omega) (by simp only; omega)]
    simp only [Option.bind_some, h1, inBn hi, cond_true, Int.toNat_natCast]
    rw [next_i (by omega)]
theorem laws_toNode.eq (k : Nat) (x : (Int × (Bool × (Int × (Int × (List (Int × ((Int × (Int × (List Int × Unit))) × Unit)) × (Int × (Int × (Int × (Int × Unit))))))))) × Unit) (hb : K.big kNode x.1 ≤ 4294967296) (hk : K.big kNode x.1 < k) : laws_toNode.F k x = some ((x.1, ()), ()) := by
  obtain ⟨x, _⟩ := x
  unfold laws_toNode.F
  rw [laws_toEntryS.eq k _ (by (try simp only [bigp, bigi, bigb, bigu, bigs, kerrorAddressString, kPrefix, kConfig, kboundsError, kEvent, kWire, kAttrs, kEntry, kRule, kWireResult, kSettings, kNode, kMail, kPair] at *); omega) (by (try simp only [bigp, bigi, bigb, bigu, bigs, kerrorAddressString, kPrefix, kConfig, kboundsError, kEvent, kWire, kAttrs, kEntry, kRule, kWireResult, kSettings, kNode, kMail, kPair] at *); omega)]
  simp only [Option.bind_some]
theorem laws_toNodeS.eq (k : Nat) (x : List (Int × (Bool × (Int × (Int × (List (Int × ((Int × (Int × (List Int × Unit))) × Unit)) × (Int × (Int × (Int × (Int × Unit))))))))) × Unit) (hb : K.big (.sl kNode) x.1 ≤ 4294967296) (hk : K.big (.sl kNode) x.1 < k) : laws_toNodeS.F k x = some ((x.1, ()), ()) := by
  obtain ⟨x, _⟩ := x
  simp only at hb hk ⊢
  have hl : x.length ≤ K.big (.sl kNode) x := big_len (e := kNode) x
  unfold laws_toNodeS.F
  simp only [Int.le_refl, decide_true, cond_true, Int.toNat_natCast]
  rw [roomy_le 4294967296 (by omega) (by decide), cond_true]
  refine loop_inv (len := x.length) (fun n i s => laws_toNodeS.l3 k _ n x i s) (fun i s => s.length = x.length ∧ ∀ j, j < i → s[j]? = x[j]?) _ ?_ ?_ k 0 _ (Nat.zero_le _) ⟨by simp, fun j h => by omega⟩ (by omega)
  · rintro n s ⟨h1, h2⟩
    simp only [laws_toNodeS.l3, lt_dec_f, cond_false]
    rw [all_eq h1 h2]
  · rintro n i s hi ⟨h1, h2⟩
    have hm : K.big kNode x[i] + 1 ≤ K.big (.sl kNode) x := big_mem (e := kNode) (l := x) (List.getElem_mem hi)
    refine ⟨s.set i x[i], ?_, set_keep h1 hi h2 (by simp [hi])⟩
    simp only [laws_toNodeS.l3, lt_dec hi, inBn hi, cond_true, share_eq, getD_get _ hi]
    rw [laws_toNode.eq k _ (by simp only; omega) (by simp only; omega)]
    simp only [Option.bind_some, h1, inBn hi, cond_true, Int.toNat_natCast]
    rw [next_i (by omega)]
theorem laws_toPair.eq (k : Nat) (x : (((Int × (Int × (Int × Unit))) × (Int × (List ((Int × (Int × Unit)) × (Int × (Int × (Int × (Bool × (Int × (Int × Unit))))))) × (List ((Int × (Int × Unit)) × (Int × (Int × (Int × (Bool × (Int × (Int × Unit))))))) × Unit)))) × (List (Int × (Bool × (Int × (Int × (List (Int × ((Int × (Int × (List Int × Unit))) × Unit)) × (Int × (Int × (Int × (Int × Unit))))))))) × (List (Int × (List Int × (Int × (List Int × Unit)))) × (List (Int × (Int × (Int × (Int × (Int × (Bool × ((Int × ((Int × (Int × (List Int × Unit))) × Unit)) × Unit))))))) × (List (Int × ((Int × (Int × (List Int × Unit))) × Unit)) × Unit))))) × Unit) (hb : K.big kPair x.1 ≤ 4294967296) (hk : K.big kPair x.1 < k) : laws_toPair.F k x = some ((x.1, ()), ()) := by
  obtain ⟨x, _⟩ := x
  unfold laws_toPair.F
  rw [laws_toSettings.eq k _ (by (try simp only [bigp, bigi, bigb, bigu, bigs, kerrorAddressString, kPrefix, kConfig, kboundsError, kEvent, kWire, kAttrs, kEntry, kRule, kWireResult, kSettings, kNode, kMail, kPair] at *); omega) (by (try simp only [bigp, bigi, bigb, bigu, bigs, kerrorAddressString, kPrefix, kConfig, kboundsError, kEvent, kWire, kAttrs, kEntry, kRule, kWireResult, kSettings, kNode, kMail, kPair] at *); omega)]
  simp only [Option.bind_some]
  rw [laws_toNodeS.eq k _ (by (try simp only [bigp, bigi, bigb, bigu, bigs, kerrorAddressString, kPrefix, kConfig, kboundsError, kEvent, kWire, kAttrs, kEntry, kRule, kWireResult, kSettings, kNode, kMail, kPair] at *); omega) (by (try simp only [bigp, bigi, bigb, bigu, bigs, kerrorAddressString, kPrefix, kConfig, kboundsError, kEvent, kWire, kAttrs, kEntry, kRule, kWireResult, kSettings, kNode, kMail, kPair] at *); omega)]
  simp only [Option.bind_some]
  rw [laws_toWireS.eq k _ (by (try simp only [bigp, bigi, bigb, bigu, bigs, kerrorAddressString, kPrefix, kConfig, kboundsError, kEvent, kWire, kAttrs, kEntry, kRule, kWireResult, kSettings, kNode, kMail, kPair] at *); omega) (by (try simp only [bigp, bigi, bigb, bigu, bigs, kerrorAddressString, kPrefix, kConfig, kboundsError, kEvent, kWire, kAttrs, kEntry, kRule, kWireResult, kSettings, kNode, kMail, kPair] at *); omega)]
  simp only [Option.bind_some]
  rw [laws_toMailS.eq k _ (by (try simp only [bigp, bigi, bigb, bigu, bigs, kerrorAddressString, kPrefix, kConfig, kboundsError, kEvent, kWire, kAttrs, kEntry, kRule, kWireResult, kSettings, kNode, kMail, kPair] at *); omega) (by (try simp only [bigp, bigi, bigb, bigu, bigs, kerrorAddressString, kPrefix, kConfig, kboundsError, kEvent, kWire, kAttrs, kEntry, kRule, kWireResult, kSettings, kNode, kMail, kPair] at *); omega)]
  simp only [Option.bind_some]
  rw [laws_toEntryS.eq k _ (by (try simp only [bigp, bigi, bigb, bigu, bigs, kerrorAddressString, kPrefix, kConfig, kboundsError, kEvent, kWire, kAttrs, kEntry, kRule, kWireResult, kSettings, kNode, kMail, kPair] at *); omega) (by (try simp only [bigp, bigi, bigb, bigu, bigs, kerrorAddressString, kPrefix, kConfig, kboundsError, kEvent, kWire, kAttrs, kEntry, kRule, kWireResult, kSettings, kNode, kMail, kPair] at *); omega)]
  simp only [Option.bind_some]
theorem laws_szByteS.tot (k : Nat) (x : List Int × Int × Unit) (hb : K.big (.sl (.int .u8)) x.1 ≤ 4294967296) (hk : K.big (.sl (.int .u8)) x.1 < k) (h0 : -1 ≤ x.2.1) (h1 : x.2.1 ≤ 4294967296) : ∃ c : Int, laws_szByteS.F k x = some ((c, ()), ()) ∧ -1 ≤ c ∧ c ≤ 4294967296 := by
  obtain ⟨x, l, _⟩ := x
  simp only at hb hk h0 h1
  have hl : x.length ≤ K.big (.sl (.int .u8)) x := big_len (e := (.int .u8)) x
  unfold laws_szByteS.F
  simp only [w64 (n := l - (x.length : Int)) (by omega) (by omega)]
  by_cases hc : l - (x.length : Int) < 0
  · exact ⟨-1, by simp [hc], by omega, by omega⟩
  · exact ⟨l - (x.length : Int), by simp [hc], by omega, by omega⟩
theorem laws_szEvent.tot (k : Nat) (x : (Int × (Int × (List Int × Unit))) × Int × Unit) (hb : K.big kEvent x.1 ≤ 4294967296) (hk : K.big kEvent x.1 < k) (h0 : -1 ≤ x.2.1) (h1 : x.2.1 ≤ 4294967296) : ∃ c : Int, laws_szEvent.F k x = some ((c, ()), ()) ∧ -1 ≤ c ∧ c ≤ 4294967296 := by
  obtain ⟨x, l, _⟩ := x
  simp only at hb hk h0 h1
  unfold laws_szEvent.F
  obtain ⟨c0, e0, l0, u0⟩ := laws_szByteS.tot k (x.2.2.1, l, ()) (by (try simp only [bigp, bigi, bigb, bigu, bigs, kerrorAddressString, kPrefix, kConfig, kboundsError, kEvent, kWire, kAttrs, kEntry, kRule, kWireResult, kSettings, kNode, kMail, kPair] at *); omega) (by (try simp only [bigp, bigi, bigb, bigu, bigs, kerrorAddressString, kPrefix, kConfig, kboundsError, kEvent, kWire, kAttrs, kEntry, kRule, kWireResult, kSettings, kNode, kMail, kPair] at *); omega) (by simp only; omega) (by simp only; omega)
  simp only [e0, Option.bind_some]
  by_cases g0 : c0 < 0
  · exact ⟨-1, by simp [g0], by omega, by omega⟩
  simp only [decide_eq_false g0, cond_false]
  exact ⟨c0, rfl, by omega, by omega⟩
theorem laws_szEntry.tot (k : Nat) (x : (Int × ((Int × (Int × (List Int × Unit))) × Unit)) × Int × Unit) (hb : K.big kEntry x.1 ≤ 4294967296) (hk : K.big kEntry x.1 < k) (h0 : -1 ≤ x.2.1) (h1 : x.2.1 ≤ 4294967296) : ∃ c : Int, laws_szEntry.F k x = some ((c, ()), ()) ∧ -1 ≤ c ∧ c ≤ 4294967296 := by
  obtain ⟨x, l, _⟩ := x
  simp only at hb hk h0 h1
  unfold laws_szEntry.F
  obtain ⟨c0, e0, l0, u0⟩ := laws_szEvent.tot k (x.2.1, l, ()) (by (try simp only [bigp, bigi, bigb, bigu, bigs, kerrorAddressString, kPrefix, kConfig, kboundsError, kEvent, kWire, kAttrs, kEntry, kRule, kWireResult, kSettings, kNode, kMail, kPair] at *); omega) (by (try simp only [bigp, bigi, bigb, bigu, bigs, kerrorAddressString, kPrefix, kConfig, kboundsError, kEvent, kWire, kAttrs, kEntry, kRule, kWireResult, kSettings, kNode, kMail, kPair] at *); omega) (by simp only; omega) (by simp only; omega)
  simp only [e0, Option.bind_some]
  by_cases g0 : c0 < 0
  · exact ⟨-1, by simp [g0], by omega, by omega⟩
  simp only [decide_eq_false g0, cond_false]
  exact ⟨c0, rfl, by omega, by omega⟩
theorem laws_szEntryS.tot (k : Nat) (x : List (Int × ((Int × (Int × (List Int × Unit))) × Unit)) × Int × Unit) (hb : K.big (.sl kEntry) x.1 ≤ 4294967296) (hk : K.big (.sl kEntry) x.1 < k) (h0 : -1 ≤ x.2.1) (h1 : x.2.1 ≤ 4294967296) : ∃ c : Int, laws_szEntryS.F k x = some ((c, ()), ()) ∧ -1 ≤ c ∧ c ≤ 4294967296 := by
  obtain ⟨x, l, _⟩ := x
  simp only at hb hk h0 h1
  have hl : x.length ≤ K.big (.sl kEntry) x := big_len (e := kEntry) x
  unfold laws_szEntryS.F
  simp only [w64 (n := l - (x.length : Int)) (by omega) (by omega)]
  by_cases hc : l - (x.length : Int) < 0
  · exact ⟨-1, by simp [hc], by omega, by omega⟩
  · rw [decide_eq_false hc, cond_false]
    have key : ∀ (d n : Nat) (s : Int) (i : Nat), x.length - i = d → d < n → i ≤ x.length → 0 ≤ s → s ≤ 4294967296 → ∃ c : Int, laws_szEntryS.l5 (ρ := (Int × Unit) × Unit) k (fun e => some (e, ())) (fun e => some (e, ())) n x s (i : Int) = some ((c, ()), ()) ∧ -1 ≤ c ∧ c ≤ 4294967296 := by
      intro d
      induction d with
      | zero =>
        intro n s i hd hn hi h0 h1
        obtain ⟨n, rfl⟩ : ∃ m, n = m + 1 := ⟨n - 1, by omega⟩
        obtain rfl : i = x.length := by omega
        exact ⟨s, by simp only [laws_szEntryS.l5, lt_dec_f, cond_false], by omega, h1⟩
      | succ d ih =>
        intro n s i hd hn hi h0 h1
        obtain ⟨n, rfl⟩ : ∃ m, n = m + 1 := ⟨n - 1, by omega⟩
        have hi' : i < x.length := by omega
        have hm : K.big kEntry x[i] + 1 ≤ K.big (.sl kEntry) x := big_mem (e := kEntry) (l := x) (List.getElem_mem hi')
        obtain ⟨c, e1, l1, u1⟩ := laws_szEntry.tot k (x[i], s, ()) (by simp only; omega) (by simp only; omega) (by simp only; omega) (by simp only; omega)
        by_cases g : c < 0
        · exact ⟨-1, by simp only [laws_szEntryS.l5, lt_dec hi', inBn hi', cond_true, share_eq, getD_get _ hi', e1, Option.bind_some, decide_eq_true g], by omega, by omega⟩
        · obtain ⟨c2, e2, l2, u2⟩ := ih n c (i + 1) (by omega) (by omega) (by omega) (by omega) u1
          refine ⟨c2, ?_, l2, u2⟩
          simp only [laws_szEntryS.l5, lt_dec hi', inBn hi', cond_true, share_eq, getD_get _ hi', e1, Option.bind_some, decide_eq_false g, cond_false]
          rw [next_i (by omega)]
          exact e2
    exact key x.length k _ 0 rfl (by omega) (Nat.zero_le _) (by omega) (by omega)
theorem laws_szRuleS.tot (k : Nat) (x : List ((Int × (Int × Unit)) × (Int × (Int × (Int × (Bool × (Int × (Int × Unit))))))) × Int × Unit) (hb : K.big (.sl kRule) x.1 ≤ 4294967296) (hk : K.big (.sl kRule) x.1 < k) (h0 : -1 ≤ x.2.1) (h1 : x.2.1 ≤ 4294967296) : ∃ c : Int, laws_szRuleS.F k x = some ((c, ()), ()) ∧ -1 ≤ c ∧ c ≤ 4294967296 := by
  obtain ⟨x, l, _⟩ := x
  simp only at hb hk h0 h1
  have hl : x.length ≤ K.big (.sl kRule) x := big_len (e := kRule) x
  unfold laws_szRuleS.F
  simp only [w64 (n := l - (x.length : Int)) (by omega) (by omega)]
  by_cases hc : l - (x.length : Int) < 0
  · exact ⟨-1, by simp [hc], by omega, by omega⟩
  · exact ⟨l - (x.length : Int), by simp [hc], by omega, by omega⟩
theorem laws_szSettings.tot (k : Nat) (x : ((Int × (Int × (Int × Unit))) × (Int × (List ((Int × (Int × Unit)) × (Int × (Int × (Int × (Bool × (Int × (Int × Unit))))))) × (List ((Int × (Int × Unit)) × (Int × (Int × (Int × (Bool × (Int × (Int × Unit))))))) × Unit)))) × Int × Unit) (hb : K.big kSettings x.1 ≤ 4294967296) (hk : K.big kSettings x.1 < k) (h0 : -1 ≤ x.2.1) (h1 : x.2.1 ≤ 4294967296) : ∃ c : Int, laws_szSettings.F k x = some ((c, ()), ()) ∧ -1 ≤ c ∧ c ≤ 4294967296 := by
  obtain ⟨x, l, _⟩ := x
  simp only at hb hk h0 h1
  unfold laws_szSettings.F
  obtain ⟨c0, e0, l0, u0⟩ := laws_szRuleS.tot k (x.2.2.1, l, ()) (by (try simp only [bigp, bigi, bigb, bigu, bigs, kerrorAddressString, kPrefix, kConfig, kboundsError, kEvent, kWire, kAttrs, kEntry, kRule, kWireResult, kSettings, kNode, kMail, kPair] at *); omega) (by (try simp only [bigp, bigi, bigb, bigu, bigs, kerrorAddressString, kPrefix, kConfig, kboundsError, kEvent, kWire, kAttrs, kEntry, kRule, kWireResult, kSettings, kNode, kMail, kPair] at *); omega) (by simp only; omega) (by simp only; omega)
  simp only [e0, Option.bind_some]
  by_cases g0 : c0 < 0
  · exact ⟨-1, by simp [g0], by omega, by omega⟩
  simp only [decide_eq_false g0, cond_false]
  obtain ⟨c1, e1, l1, u1⟩ := laws_szRuleS.tot k (x.2.2.2.1, c0, ()) (by (try simp only [bigp, bigi, bigb, bigu, bigs, kerrorAddressString, kPrefix, kConfig, kboundsError, kEvent, kWire, kAttrs, kEntry, kRule, kWireResult, kSettings, kNode, kMail, kPair] at *); omega) (by (try simp only [bigp, bigi, bigb, bigu, bigs, kerrorAddressString, kPrefix, kConfig, kboundsError, kEvent, kWire, kAttrs, kEntry, kRule, kWireResult, kSettings, kNode, kMail, kPair] at *); omega) (by simp only; omega) (by simp only; omega)
  simp only [e1, Option.bind_some]
  by_cases g1 : c1 < 0
  · exact ⟨-1, by simp [g1], by omega, by omega⟩
  simp only [decide_eq_false g1, cond_false]
  exact ⟨c1, rfl, by omega, by omega⟩
theorem laws_szMail.tot (k : Nat) (x : (Int × (Int × (Int × (Int × (Int × (Bool × ((Int × ((Int × (Int × (List Int × Unit))) × Unit)) × Unit))))))) × Int × Unit) (hb : K.big kMail x.1 ≤ 4294967296) (hk : K.big kMail x.1 < k) (h0 : -1 ≤ x.2.1) (h1 : x.2.1 ≤ 4294967296) : ∃ c : Int, laws_szMail.F k x = some ((c, ()), ()) ∧ -1 ≤ c ∧ c ≤ 4294967296 := by
  obtain ⟨x, l, _⟩ := x
  simp only at hb hk h0 h1
  unfold laws_szMail.F
  obtain ⟨c0, e0, l0, u0⟩ := laws_szEntry.tot k (x.2.2.2.2.2.2.1, l, ()) (by (try simp only [bigp, bigi, bigb, bigu, bigs, kerrorAddressString, kPrefix, kConfig, kboundsError, kEvent, kWire, kAttrs, kEntry, kRule, kWireResult, kSettings, kNode, kMail, kPair] at *); omega) (by (try simp only [bigp, bigi, bigb, bigu, bigs, kerrorAddressString, kPrefix, kConfig, kboundsError, kEvent, kWire, kAttrs, kEntry, kRule, kWireResult, kSettings, kNode, kMail, kPair] at *); omega) (by simp only; omega) (by simp only; omega)
  simp only [e0, Option.bind_some]
  by_cases g0 : c0 < 0
  · exact ⟨-1, by simp [g0], by omega, by omega⟩
  simp only [decide_eq_false g0, cond_false]
  exact ⟨c0, rfl, by omega, by omega⟩
theorem laws_szMailS.tot (k : Nat) (x : List (Int × (Int × (Int × (Int × (Int × (Bool × ((Int × ((Int × (Int × (List Int × Unit))) × Unit)) × Unit))))))) × Int × Unit) (hb : K.big (.sl kMail) x.1 ≤ 4294967296) (hk : K.big (.sl kMail) x.1 < k) (h0 : -1 ≤ x.2.1) (h1 : x.2.1 ≤ 4294967296) : ∃ c : Int, laws_szMailS.F k x = some ((c, ()), ()) ∧ -1 ≤ c ∧ c ≤ 4294967296 := by
  obtain ⟨x, l, _⟩ := x
  simp only at hb hk h0 h1
  have hl : x.length ≤ K.big (.sl kMail) x := big_len (e := kMail) x
  unfold laws_szMailS.F
  simp only [w64 (n := l - (x.length : Int)) (by omega) (by omega)]
  by_cases hc : l - (x.length : Int) < 0
  · exact ⟨-1, by simp [hc], by omega, by omega⟩
  · rw [decide_eq_false hc, cond_false]
    have key : ∀ (d n : Nat) (s : Int) (i : Nat), x.length - i = d → d < n → i ≤ x.length → 0 ≤ s → s ≤ 4294967296 → ∃ c : Int, laws_szMailS.l5 (ρ := (Int × Unit) × Unit) k (fun e => some (e, ())) (fun e => some (e, ())) n x s (i : Int) = some ((c, ()), ()) ∧ -1 ≤ c ∧ c ≤ 4294967296 := by
      intro d
      induction d with
      | zero =>
        intro n s i hd hn hi h0 h1
        obtain ⟨n, rfl⟩ : ∃ m, n = m + 1 := ⟨n - 1, by omega⟩
        obtain rfl : i = x.length := by omega
        exact ⟨s, by simp only [laws_szMailS.l5, lt_dec_f, cond_false], by omega, h1⟩
      | succ d ih =>
        intro n s i hd hn hi h0 h1
        obtain ⟨n, rfl⟩ : ∃ m, n = m + 1 := ⟨n - 1, by omega⟩
        have hi' : i < x.length := by omega
        have hm : K.big kMail x[i] + 1 ≤ K.big (.sl kMail) x := big_mem (e := kMail) (l := x) (List.getElem_mem hi')
        obtain ⟨c, e1, l1, u1⟩ := laws_szMail.tot k (x[i], s, ()) (by simp only; omega) (by simp only; omega) (by simp only; omega) (by simp only; omega)
        by_cases g : c < 0
        · exact ⟨-1, by simp only [laws_szMailS.l5, lt_dec hi', inBn hi', cond_true, share_eq, getD_get _ hi', e1, Option.bind_some, decide_eq_true g], by omega, by omega⟩
        · obtain ⟨c2, e2, l2, u2⟩ := ih n c (i + 1) (by omega) (by omega) (by omega) (by omega) u1
          refine ⟨c2, ?_, l2, u2⟩
          simp only [laws_szMailS.l5, lt_dec hi', inBn hi', cond_true, share_eq, getD_get _ hi', e1, Option.bind_some, decide_eq_false g, cond_false]
          rw [next_i (by omega)]
          exact e2
    exact key x.length k _ 0 rfl (by omega) (Nat.zero_le _) (by omega) (by omega)
theorem laws_szWire.tot (k : Nat) (x : (Int × (List Int × (Int × (List Int × Unit)))) × Int × Unit) (hb : K.big kWire x.1 ≤ 4294967296) (hk : K.big kWire x.1 < k) (h0 : -1 ≤ x.2.1) (h1 : x.2.1 ≤ 4294967296) : ∃ c : Int, laws_szWire.F k x = some ((c, ()), ()) ∧ -1 ≤ c ∧ c ≤ 4294967296 := by
  obtain ⟨x, l, _⟩ := x
  simp only at hb hk h0 h1
  unfold laws_szWire.F
  obtain ⟨c0, e0, l0, u0⟩ := laws_szByteS.tot k (x.2.1, l, ()) (by (try simp only [bigp, bigi, bigb, bigu, bigs, kerrorAddressString, kPrefix, kConfig, kboundsError, kEvent, kWire, kAttrs, kEntry, kRule, kWireResult, kSettings, kNode, kMail, kPair] at *); omega) (by (try simp only [bigp, bigi, bigb, bigu, bigs, kerrorAddressString, kPrefix, kConfig, kboundsError, kEvent, kWire, kAttrs, kEntry, kRule, kWireResult, kSettings, kNode, kMail, kPair] at *); omega) (by simp only; omega) (by simp only; omega)
  simp only [e0, Option.bind_some]
  by_cases g0 : c0 < 0
  · exact ⟨-1, by simp [g0], by omega, by omega⟩
  simp only [decide_eq_false g0, cond_false]
  obtain ⟨c1, e1, l1, u1⟩ := laws_szByteS.tot k (x.2.2.2.1, c0, ()) (by (try simp only [bigp, bigi, bigb, bigu, bigs, kerrorAddressString, kPrefix, kConfig, kboundsError, kEvent, kWire, kAttrs, kEntry, kRule, kWireResult, kSettings, kNode, kMail, kPair] at *); omega) (by (try simp only [bigp, bigi, bigb, bigu, bigs, kerrorAddressString, kPrefix, kConfig, kboundsError, kEvent, kWire, kAttrs, kEntry, kRule, kWireResult, kSettings, kNode, kMail, kPair] at *); omega) (by simp only; omega) (by simp only; omega)
  simp only [e1, Option.bind_some]
  by_cases g1 : c1 < 0
  · exact ⟨-1, by simp [g1], by omega, by omega⟩
  simp only [decide_eq_false g1, cond_false]
  exact ⟨c1, rfl, by omega, by omega⟩
theorem laws_szWireS.tot (k : Nat) (x : List (Int × (List Int × (Int × (List Int × Unit)))) × Int × Unit) (hb : K.big (.sl kWire) x.1 ≤ 4294967296) (hk : K.big (.sl kWire) x.1 < k) (h0 : -1 ≤ x.2.1) (h1 : x.2.1 ≤ 4294967296) : ∃ c : Int, laws_szWireS.F k x = some ((c, ()), ()) ∧ -1 ≤ c ∧ c ≤ 4294967296 := by
  obtain ⟨x, l, _⟩ := x
  simp only at hb hk h0 h1
  have hl : x.length ≤ K.big (.sl kWire) x := big_len (e := kWire) x
  unfold laws_szWireS.F
  simp only [w64 (n := l - (x.length : Int)) (by omega) (by omega)]
  by_cases hc : l - (x.length : Int) < 0
  · exact ⟨-1, by simp [hc], by omega, by omega⟩
  · rw [decide_eq_false hc, cond_false]
    have key : ∀ (d n : Nat) (s : Int) (i : Nat), x.length - i = d → d < n → i ≤ x.length → 0 ≤ s → s ≤ 4294967296 → ∃ c : Int, laws_szWireS.l5 (ρ := (Int × Unit) × Unit) k (fun e => some (e, ())) (fun e => some (e, ())) n x s (i : Int) = some ((c, ()), ()) ∧ -1 ≤ c ∧ c ≤ 4294967296 := by
      intro d
      induction d with
      | zero =>
        intro n s i hd hn hi h0 h1
        obtain ⟨n, rfl⟩ : ∃ m, n = m + 1 := ⟨n - 1, by omega⟩
        obtain rfl : i = x.length := by omega
        exact ⟨s, by simp only [laws_szWireS.l5, lt_dec_f, cond_false], by omega, h1⟩
      | succ d ih =>
        intro n s i hd hn hi h0 h1
        obtain ⟨n, rfl⟩ : ∃ m, n = m + 1 := ⟨n - 1, by omega⟩
        have hi' : i < x.length := by omega
        have hm : K.big kWire x[i] + 1 ≤ K.big (.sl kWire) x := big_mem (e := kWire) (l := x) (List.getElem_mem hi')
        obtain ⟨c, e1, l1, u1⟩ := laws_szWire.tot k (x[i], s, ()) (by simp only; omega) (by simp only; omega) (by simp only; omega) (by simp only; omega)
        by_cases g : c < 0
        · exact ⟨-1, by simp only [laws_szWireS.l5, lt_dec hi', inBn hi', cond_true, share_eq, getD_get _ hi', e1, Option.bind_some, decide_eq_true g], by omega, by omega⟩
        · obtain ⟨c2, e2, l2, u2⟩ := ih n c (i + 1) (by omega) (by omega) (by omega) (by omega) u1
          refine ⟨c2, ?_, l2, u2⟩
          simp only [laws_szWireS.l5, lt_dec hi', inBn hi', cond_true, share_eq, getD_get _ hi', e1, Option.bind_some, decide_eq_false g, cond_false]
          rw [next_i (by omega)]
          exact e2
    exact key x.length k _ 0 rfl (by omega) (Nat.zero_le _) (by omega) (by omega)
theorem laws_szNode.tot (k : Nat) (x : (Int × (Bool × (Int × (Int × (List (Int × ((Int × (Int × (List Int × Unit))) × Unit)) × (Int × (Int × (Int × (Int × Unit))))))))) × Int × Unit) (hb : K.big kNode x.1 ≤ 4294967296) (hk : K.big kNode x.1 < k) (h0 : -1 ≤ x.2.1) (h1 : x.2.1 ≤ 4294967296) : ∃ c : Int, laws_szNode.F k x = some ((c, ()), ()) ∧ -1 ≤ c ∧ c ≤ 4294967296 := by
  obtain ⟨x, l, _⟩ := x
  simp only at hb hk h0 h1
  unfold laws_szNode.F
  obtain ⟨c0, e0, l0, u0⟩ := laws_szEntryS.tot k (x.2.2.2.2.1, l, ()) (by (try simp only [bigp, bigi, bigb, bigu, bigs, kerrorAddressString, kPrefix, kConfig, kboundsError, kEvent, kWire, kAttrs, kEntry, kRule, kWireResult, kSettings, kNode, kMail, kPair] at *); omega) (by (try simp only [bigp, bigi, bigb, bigu, bigs, kerrorAddressString, kPrefix, kConfig, kboundsError, kEvent, kWire, kAttrs, kEntry, kRule, kWireResult, kSettings, kNode, kMail, kPair] at *); omega) (by simp only; omega) (by simp only; omega)
  simp only [e0, Option.bind_some]
  by_cases g0 : c0 < 0
  · exact ⟨-1, by simp [g0], by omega, by omega⟩
  simp only [decide_eq_false g0, cond_false]
  exact ⟨c0, rfl, by omega, by omega⟩
theorem laws_szNodeS.tot (k : Nat) (x : List (Int × (Bool × (Int × (Int × (List (Int × ((Int × (Int × (List Int × Unit))) × Unit)) × (Int × (Int × (Int × (Int × Unit))))))))) × Int × Unit) (hb : K.big (.sl kNode) x.1 ≤ 4294967296) (hk : K.big (.sl kNode) x.1 < k) (h0 : -1 ≤ x.2.1) (h1 : x.2.1 ≤ 4294967296) : ∃ c : Int, laws_szNodeS.F k x = some ((c, ()), ()) ∧ -1 ≤ c ∧ c ≤ 4294967296 := by
  obtain ⟨x, l, _⟩ := x
  simp only at hb hk h0 h1
  have hl : x.length ≤ K.big (.sl kNode) x := big_len (e := kNode) x
  unfold laws_szNodeS.F
  simp only [w64 (n := l - (x.length : Int)) (by omega) (by omega)]
  by_cases hc : l - (x.length : Int) < 0
  · exact ⟨-1, by simp [hc], by omega, by omega⟩
  · rw [decide_eq_false hc, cond_false]
    have key : ∀ (d n : Nat) (s : Int) (i : Nat), x.length - i = d → d < n → i ≤ x.length → 0 ≤ s → s ≤ 4294967296 → ∃ c : Int, laws_szNodeS.l5 (ρ := (Int × Unit) × Unit) k (fun e => some (e, ())) (fun e => some (e, ())) n x s (i : Int) = some ((c, ()), ()) ∧ -1 ≤ c ∧ c ≤ 4294967296 := by
      intro d
      induction d with
      | zero =>
        intro n s i hd hn hi h0 h1
        obtain ⟨n, rfl⟩ : ∃ m, n = m + 1 := ⟨n - 1, by omega⟩
        obtain rfl : i = x.length := by omega
        exact ⟨s, by simp only [laws_szNodeS.l5, lt_dec_f, cond_false], by omega, h1⟩
      | succ d ih =>
        intro n s i hd hn hi h0 h1
        obtain ⟨n, rfl⟩ : ∃ m, n = m + 1 := ⟨n - 1, by omega⟩
        have hi' : i < x.length := by omega
        have hm : K.big kNode x[i] + 1 ≤ K.big (.sl kNode) x := big_mem (e := kNode) (l := x) (List.getElem_mem hi')
        obtain ⟨c, e1, l1, u1⟩ := laws_szNode.tot k (x[i], s, ()) (by simp only; omega) (by simp only; omega) (by simp only; omega) (by simp only; omega)
        by_cases g : c < 0
        · exact ⟨-1, by simp only [laws_szNodeS.l5, lt_dec hi', inBn hi', cond_true, share_eq, getD_get _ hi', e1, Option.bind_some, decide_eq_true g], by omega, by omega⟩
        · obtain ⟨c2, e2, l2, u2⟩ := ih n c (i + 1) (by omega) (by omega) (by omega) (by omega) u1
          refine ⟨c2, ?_, l2, u2⟩
          simp only [laws_szNodeS.l5, lt_dec hi', inBn hi', cond_true, share_eq, getD_get _ hi', e1, Option.bind_some, decide_eq_false g, cond_false]
          rw [next_i (by omega)]
          exact e2
    exact key x.length k _ 0 rfl (by omega) (Nat.zero_le _) (by omega) (by omega)
theorem laws_szPair.tot (k : Nat) (x : (((Int × (Int × (Int × Unit))) × (Int × (List ((Int × (Int × Unit)) × (Int × (Int × (Int × (Bool × (Int × (Int × Unit))))))) × (List ((Int × (Int × Unit)) × (Int × (Int × (Int × (Bool × (Int × (Int × Unit))))))) × Unit)))) × (List (Int × (Bool × (Int × (Int × (List (Int × ((Int × (Int × (List Int × Unit))) × Unit)) × (Int × (Int × (Int × (Int × Unit))))))))) × (List (Int × (List Int × (Int × (List Int × Unit)))) × (List (Int × (Int × (Int × (Int × (Int × (Bool × ((Int × ((Int × (Int × (List Int × Unit))) × Unit)) × Unit))))))) × (List (Int × ((Int × (Int × (List Int × Unit))) × Unit)) × Unit))))) × Int × Unit) (hb : K.big kPair x.1 ≤ 4294967296) (hk : K.big kPair x.1 < k) (h0 : -1 ≤ x.2.1) (h1 : x.2.1 ≤ 4294967296) : ∃ c : Int, laws_szPair.F k x = some ((c, ()), ()) ∧ -1 ≤ c ∧ c ≤ 4294967296 := by
  obtain ⟨x, l, _⟩ := x
  simp only at hb hk h0 h1
  unfold laws_szPair.F
  obtain ⟨c0, e0, l0, u0⟩ := laws_szSettings.tot k (x.1, l, ()) (by (try simp only [bigp, bigi, bigb, bigu, bigs, kerrorAddressString, kPrefix, kConfig, kboundsError, kEvent, kWire, kAttrs, kEntry, kRule, kWireResult, kSettings, kNode, kMail, kPair] at *); omega) (by (try simp only [bigp, bigi, bigb, bigu, bigs, kerrorAddressString, kPrefix, kConfig, kboundsError, kEvent, kWire, kAttrs, kEntry, kRule, kWireResult, kSettings, kNode, kMail, kPair] at *); omega) (by simp only; omega) (by simp only; omega)
  simp only [e0, Option.bind_some]
  by_cases g0 : c0 < 0
  · exact ⟨-1, by simp [g0], by omega, by omega⟩
  simp only [decide_eq_false g0, cond_false]
  obtain ⟨c1, e1, l1, u1⟩ := laws_szNodeS.tot k (x.2.1, c0, ()) (by (try simp only [bigp, bigi, bigb, bigu, bigs, kerrorAddressString, kPrefix, kConfig, kboundsError, kEvent, kWire, kAttrs, kEntry, kRule, kWireResult, kSettings, kNode, kMail, kPair] at *); omega) (by (try simp only [bigp, bigi, bigb, bigu, bigs, kerrorAddressString, kPrefix, kConfig, kboundsError, kEvent, kWire, kAttrs, kEntry, kRule, kWireResult, kSettings, kNode, kMail, kPair] at *); omega) (by simp only; omega) (by simp only; omega)
  simp only [e1, Option.bind_some]
  by_cases g1 : c1 < 0
  · exact ⟨-1, by simp [g1], by omega, by omega⟩
  simp only [decide_eq_false g1, cond_false]
  obtain ⟨c2, e2, l2, u2⟩ := laws_szWireS.tot k (x.2.2.1, c1, ()) (by (try simp only [bigp, bigi, bigb, bigu, bigs, kerrorAddressString, kPrefix, kConfig, kboundsError, kEvent, kWire, kAttrs, kEntry, kRule, kWireResult, kSettings, kNode, kMail, kPair] at *); omega) (by (try simp only [bigp, bigi, bigb, bigu, bigs, kerrorAddressString, kPrefix, kConfig, kboundsError, kEvent, kWire, kAttrs, kEntry, kRule, kWireResult, kSettings, kNode, kMail, kPair] at *); omega) (by simp only; omega) (by simp only; omega)
  simp only [e2, Option.bind_some]
  by_cases g2 : c2 < 0
  · exact ⟨-1, by simp [g2], by omega, by omega⟩
  simp only [decide_eq_false g2, cond_false]
  obtain ⟨c3, e3, l3, u3⟩ := laws_szMailS.tot k (x.2.2.2.1, c2, ()) (by (try simp only [bigp, bigi, bigb, bigu, bigs, kerrorAddressString, kPrefix, kConfig, kboundsError, kEvent, kWire, kAttrs, kEntry, kRule, kWireResult, kSettings, kNode, kMail, kPair] at *); omega) (by (try simp only [bigp, bigi, bigb, bigu, bigs, kerrorAddressString, kPrefix, kConfig, kboundsError, kEvent, kWire, kAttrs, kEntry, kRule, kWireResult, kSettings, kNode, kMail, kPair] at *); omega) (by simp only; omega) (by simp only; omega)
  simp only [e3, Option.bind_some]
  by_cases g3 : c3 < 0
  · exact ⟨-1, by simp [g3], by omega, by omega⟩
  simp only [decide_eq_false g3, cond_false]
  obtain ⟨c4, e4, l4, u4⟩ := laws_szEntryS.tot k (x.2.2.2.2.1, c3, ()) (by (try simp only [bigp, bigi, bigb, bigu, bigs, kerrorAddressString, kPrefix, kConfig, kboundsError, kEvent, kWire, kAttrs, kEntry, kRule, kWireResult, kSettings, kNode, kMail, kPair] at *); omega) (by (try simp only [bigp, bigi, bigb, bigu, bigs, kerrorAddressString, kPrefix, kConfig, kboundsError, kEvent, kWire, kAttrs, kEntry, kRule, kWireResult, kSettings, kNode, kMail, kPair] at *); omega) (by simp only; omega) (by simp only; omega)
  simp only [e4, Option.bind_some]
  by_cases g4 : c4 < 0
  · exact ⟨-1, by simp [g4], by omega, by omega⟩
  simp only [decide_eq_false g4, cond_false]
  exact ⟨c4, rfl, by omega, by omega⟩
theorem laws_eqPrefix.refl (k : Nat) (x : (Int × (Int × Unit)) × (Int × (Int × Unit)) × Unit) (he : x.2.1 = x.1) (hb : K.big kPrefix x.1 ≤ 4294967296) (hk : K.big kPrefix x.1 < k) : laws_eqPrefix.F k x = some ((true, ()), ()) := by
  obtain ⟨x, y, _⟩ := x
  simp only at he hb hk
  subst he
  unfold laws_eqPrefix.F
  (try simp only [bne_self_eq_false, cond_false])
  (try rfl)
theorem laws_eqRule.refl (k : Nat) (x : ((Int × (Int × Unit)) × (Int × (Int × (Int × (Bool × (Int × (Int × Unit))))))) × ((Int × (Int × Unit)) × (Int × (Int × (Int × (Bool × (Int × (Int × Unit))))))) × Unit) (he : x.2.1 = x.1) (hb : K.big kRule x.1 ≤ 4294967296) (hk : K.big kRule x.1 < k) : laws_eqRule.F k x = some ((true, ()), ()) := by
  obtain ⟨x, y, _⟩ := x
  simp only at he hb hk
  subst he
  unfold laws_eqRule.F
  (try simp only [bne_self_eq_false, cond_false])
  rw [laws_eqPrefix.refl k _ rfl (by (try simp only [bigp, bigi, bigb, bigu, bigs, kerrorAddressString, kPrefix, kConfig, kboundsError, kEvent, kWire, kAttrs, kEntry, kRule, kWireResult, kSettings, kNode, kMail, kPair] at *); omega) (by (try simp only [bigp, bigi, bigb, bigu, bigs, kerrorAddressString, kPrefix, kConfig, kboundsError, kEvent, kWire, kAttrs, kEntry, kRule, kWireResult, kSettings, kNode, kMail, kPair] at *); omega)]
  (try simp only [Option.bind_some, Bool.not_true, cond_false, bne_self_eq_false, BEq.rfl])
theorem laws_eqRuleS.refl (k : Nat) (x : List ((Int × (Int × Unit)) × (Int × (Int × (Int × (Bool × (Int × (Int × Unit))))))) × List ((Int × (Int × Unit)) × (Int × (Int × (Int × (Bool × (Int × (Int × Unit))))))) × Unit) (he : x.2.1 = x.1) (hb : K.big (.sl kRule) x.1 ≤ 4294967296) (hk : K.big (.sl kRule) x.1 < k) : laws_eqRuleS.F k x = some ((true, ()), ()) := by
  obtain ⟨x, y, _⟩ := x
  simp only at he hb hk
  subst he
  have hl : y.length ≤ K.big (.sl kRule) y := big_len (e := kRule) y
  unfold laws_eqRuleS.F
  simp only [bne_self_eq_false, cond_false]
  refine loop_inv (len := y.length) (fun n i (s : Unit) => laws_eqRuleS.l4 k _ _ n y y i) (fun i s => True) _ ?_ ?_ k 0 () (Nat.zero_le _) trivial (by omega)
  · rintro n s -
    simp only [laws_eqRuleS.l4, lt_dec_f, cond_false]
  · rintro n i s hi -
    have hm : K.big kRule y[i] + 1 ≤ K.big (.sl kRule) y := big_mem (e := kRule) (l := y) (List.getElem_mem hi)
    refine ⟨(), ?_, trivial⟩
    simp only [laws_eqRuleS.l4, lt_dec hi, inBn hi, cond_true, share_eq, getD_get _ hi, bne_self_eq_false, cond_false]
    rw [laws_eqRule.refl k _ rfl (by simp only; omega) (by simp only; omega)]
    simp only [Option.bind_some, Bool.not_true, cond_false]
    rw [next_i (by omega)]
theorem laws_eqConfig.refl (k : Nat) (x : (Int × (Int × (Int × Unit))) × (Int × (Int × (Int × Unit))) × Unit) (he : x.2.1 = x.1) (hb : K.big kConfig x.1 ≤ 4294967296) (hk : K.big kConfig x.1 < k) : laws_eqConfig.F k x = some ((true, ()), ()) := by
  obtain ⟨x, y, _⟩ := x
  simp only at he hb hk
  subst he
  unfold laws_eqConfig.F
  (try simp only [bne_self_eq_false, cond_false])
  (try rfl)
theorem laws_eqSettings.refl (k : Nat) (x : ((Int × (Int × (Int × Unit))) × (Int × (List ((Int × (Int × Unit)) × (Int × (Int × (Int × (Bool × (Int × (Int × Unit))))))) × (List ((Int × (Int × Unit)) × (Int × (Int × (Int × (Bool × (Int × (Int × Unit))))))) × Unit)))) × ((Int × (Int × (Int × Unit))) × (Int × (List ((Int × (Int × Unit)) × (Int × (Int × (Int × (Bool × (Int × (Int × Unit))))))) × (List ((Int × (Int × Unit)) × (Int × (Int × (Int × (Bool × (Int × (Int × Unit))))))) × Unit)))) × Unit) (he : x.2.1 = x.1) (hb : K.big kSettings x.1 ≤ 4294967296) (hk : K.big kSettings x.1 < k) : laws_eqSettings.F k x = some ((true, ()), ()) := by
  obtain ⟨x, y, _⟩ := x
  simp only at he hb hk
  subst he
  unfold laws_eqSettings.F
  (try simp only [bne_self_eq_false, cond_false])
  rw [laws_eqConfig.refl k _ rfl (by (try simp only [bigp, bigi, bigb, bigu, bigs, kerrorAddressString, kPrefix, kConfig, kboundsError, kEvent, kWire, kAttrs, kEntry, kRule, kWireResult, kSettings, kNode, kMail, kPair] at *); omega) (by (try simp only [bigp, bigi, bigb, bigu, bigs, kerrorAddressString, kPrefix, kConfig, kboundsError, kEvent, kWire, kAttrs, kEntry, kRule, kWireResult, kSettings, kNode, kMail, kPair] at *); omega)]
  (try simp only [Option.bind_some, Bool.not_true, cond_false, bne_self_eq_false, BEq.rfl])
  rw [laws_eqRuleS.refl k _ rfl (by (try simp only [bigp, bigi, bigb, bigu, bigs, kerrorAddressString, kPrefix, kConfig, kboundsError, kEvent, kWire, kAttrs, kEntry, kRule, kWireResult, kSettings, kNode, kMail, kPair] at *); omega) (by (try simp only [bigp, bigi, bigb, bigu, bigs, kerrorAddressString, kPrefix, kConfig, kboundsError, kEvent, kWire, kAttrs, kEntry, kRule, kWireResult, kSettings, kNode, kMail, kPair] at *); omega)]
  (try simp only [Option.bind_some, Bool.not_true, cond_false, bne_self_eq_false, BEq.rfl])
  rw [laws_eqRuleS.refl k _ rfl (by (try simp only [bigp, bigi, bigb, bigu, bigs, kerrorAddressString, kPrefix, kConfig, kboundsError, kEvent, kWire, kAttrs, kEntry, kRule, kWireResult, kSettings, kNode, kMail, kPair] at *); omega) (by (try simp only [bigp, bigi, bigb, bigu, bigs, kerrorAddressString, kPrefix, kConfig, kboundsError, kEvent, kWire, kAttrs, kEntry, kRule, kWireResult, kSettings, kNode, kMail, kPair] at *); omega)]
  (try simp only [Option.bind_some, Bool.not_true, cond_false, bne_self_eq_false, BEq.rfl])
theorem laws_eqByteS.refl (k : Nat) (x : List Int × List Int × Unit) (he : x.2.1 = x.1) (hb : K.big (.sl (.int .u8)) x.1 ≤ 4294967296) (hk : K.big (.sl (.int .u8)) x.1 < k) : laws_eqByteS.F k x = some ((true, ()), ()) := by
  obtain ⟨x, y, _⟩ := x
  simp only at he hb hk
  subst he
  have hl : y.length ≤ K.big (.sl (.int .u8)) y := big_len (e := (.int .u8)) y
  unfold laws_eqByteS.F
  simp only [bne_self_eq_false, cond_false]
  refine loop_inv (len := y.length) (fun n i (s : Unit) => laws_eqByteS.l4 k _ _ n y y i) (fun i s => True) _ ?_ ?_ k 0 () (Nat.zero_le _) trivial (by omega)
  · rintro n s -
    simp only [laws_eqByteS.l4, lt_dec_f, cond_false]
  · rintro n i s hi -
    have hm : K.big (.int .u8) y[i] + 1 ≤ K.big (.sl (.int .u8)) y := big_mem (e := (.int .u8)) (l := y) (List.getElem_mem hi)
    refine ⟨(), ?_, trivial⟩
    simp only [laws_eqByteS.l4, lt_dec hi, inBn hi, cond_true, share_eq, getD_get _ hi, bne_self_eq_false, cond_false]
    rw [next_i (by omega)]
theorem laws_eqEvent.refl (k : Nat) (x : (Int × (Int × (List Int × Unit))) × (Int × (Int × (List Int × Unit))) × Unit) (he : x.2.1 = x.1) (hb : K.big kEvent x.1 ≤ 4294967296) (hk : K.big kEvent x.1 < k) : laws_eqEvent.F k x = some ((true, ()), ()) := by
  obtain ⟨x, y, _⟩ := x
  simp only at he hb hk
  subst he
  unfold laws_eqEvent.F
  (try simp only [bne_self_eq_false, cond_false])
  rw [laws_eqByteS.refl k _ rfl (by (try simp only [bigp, bigi, bigb, bigu, bigs, kerrorAddressString, kPrefix, kConfig, kboundsError, kEvent, kWire, kAttrs, kEntry, kRule, kWireResult, kSettings, kNode, kMail, kPair] at *); omega) (by (try simp only [bigp, bigi, bigb, bigu, bigs, kerrorAddressString, kPrefix, kConfig, kboundsError, kEvent, kWire, kAttrs, kEntry, kRule, kWireResult, kSettings, kNode, kMail, kPair] at *); omega)]
  (try simp only [Option.bind_some, Bool.not_true, cond_false, bne_self_eq_false, BEq.rfl])
theorem laws_eqEntry.refl (k : Nat) (x : (Int × ((Int × (Int × (List Int × Unit))) × Unit)) × (Int × ((Int × (Int × (List Int × Unit))) × Unit)) × Unit) (he : x.2.1 = x.1) (hb : K.big kEntry x.1 ≤ 4294967296) (hk : K.big kEntry x.1 < k) : laws_eqEntry.F k x = some ((true, ()), ()) := by
  obtain ⟨x, y, _⟩ := x
  simp only at he hb hk
  subst he
  unfold laws_eqEntry.F
  (try simp only [bne_self_eq_false, cond_false])
  rw [laws_eqEvent.refl k _ rfl (by (try simp only [bigp, bigi, bigb, bigu, bigs, kerrorAddressString, kPrefix, kConfig, kboundsError, kEvent, kWire, kAttrs, kEntry, kRule, kWireResult, kSettings, kNode, kMail, kPair] at *); omega) (by (try simp only [bigp, bigi, bigb, bigu, bigs, kerrorAddressString, kPrefix, kConfig, kboundsError, kEvent, kWire, kAttrs, kEntry, kRule, kWireResult, kSettings, kNode, kMail, kPair] at *); omega)]
  (try simp only [Option.bind_some, Bool.not_true, cond_false, bne_self_eq_false, BEq.rfl])
theorem laws_eqEntryS.refl (k : Nat) (x : List (Int × ((Int × (Int × (List Int × Unit))) × Unit)) × List (Int × ((Int × (Int × (List Int × Unit))) × Unit)) × Unit) (he : x.2.1 = x.1) (hb : K.big (.sl kEntry) x.1 ≤ 4294967296) (hk : K.big (.sl kEntry) x.1 < k) : laws_eqEntryS.F k x = some ((true, ()), ()) := by
  obtain ⟨x, y, _⟩ := x
  simp only at he hb hk
  subst he
  have hl : y.length ≤ K.big (.sl kEntry) y := big_len (e := kEntry) y
  unfold laws_eqEntryS.F
  simp only [bne_self_eq_false, cond_false]
  refine loop_inv (len := y.length) (fun n i (s : Unit) => laws_eqEntryS.l4 k _ _ n y y i) (fun i s => True) _ ?_ ?_ k 0 () (Nat.zero_le _) trivial (by omega)
  · rintro n s -
    simp only [laws_eqEntryS.l4, lt_dec_f, cond_false]
  · rintro n i s hi -
    have hm : K.big kEntry y[i] + 1 ≤ K.big (.sl kEntry) y := big_mem (e := kEntry) (l := y) (List.getElem_mem hi)
    refine ⟨(), ?_, trivial⟩
    simp only [laws_eqEntryS.l4, lt_dec hi, inBn hi, cond_true, share_eq, getD_get _ hi, bne_self_eq_false, cond_false]
    rw [laws_eqEntry.refl k _ rfl (by simp only; omega) (by simp only; omega)]
    simp only [Option.bind_some, Bool.not_true, cond_false]
    rw [next_i (by omega)]
theorem laws_eqNode.refl (k : Nat) (x : (Int × (Bool × (Int × (Int × (List (Int × ((Int × (Int × (List Int × Unit))) × Unit)) × (Int × (Int × (Int × (Int × Unit))))))))) × (Int × (Bool × (Int × (Int × (List (Int × ((Int × (Int × (List Int × Unit))) × Unit)) × (Int × (Int × (Int × (Int × Unit))))))))) × Unit) (he : x.2.1 = x.1) (hb : K.big kNode x.1 ≤ 4294967296) (hk : K.big kNode x.1 < k) : laws_eqNode.F k x = some ((true, ()), ()) := by
  obtain ⟨x, y, _⟩ := x
  simp only at he hb hk
  subst he
  unfold laws_eqNode.F
  (try simp only [bne_self_eq_false, cond_false])
  rw [laws_eqEntryS.refl k _ rfl (by (try simp only [bigp, bigi, bigb, bigu, bigs, kerrorAddressString, kPrefix, kConfig, kboundsError, kEvent, kWire, kAttrs, kEntry, kRule, kWireResult, kSettings, kNode, kMail, kPair] at *); omega) (by (try simp only [bigp, bigi, bigb, bigu, bigs, kerrorAddressString, kPrefix, kConfig, kboundsError, kEvent, kWire, kAttrs, kEntry, kRule, kWireResult, kSettings, kNode, kMail, kPair] at *); omega)]
  (try simp only [Option.bind_some, Bool.not_true, cond_false, bne_self_eq_false, BEq.rfl])
theorem laws_eqNodeS.refl (k : Nat) (x : List (Int × (Bool × (Int × (Int × (List (Int × ((Int × (Int × (List Int × Unit))) × Unit)) × (Int × (Int × (Int × (Int × Unit))))))))) × List (Int × (Bool × (Int × (Int × (List (Int × ((Int × (Int × (List Int × Unit))) × Unit)) × (Int × (Int × (Int × (Int × Unit))))))))) × Unit) (he : x.2.1 = x.1) (hb : K.big (.sl kNode) x.1 ≤ 4294967296) (hk : K.big (.sl kNode) x.1 < k) : laws_eqNodeS.F k x = some ((true, ()), ()) := by
  obtain ⟨x, y, _⟩ := x
  simp only at he hb hk
  subst he
  have hl : y.length ≤ K.big (.sl kNode) y := big_len (e := kNode) y
  unfold laws_eqNodeS.F
  simp only [bne_self_eq_false, cond_false]
  refine loop_inv (len := y.length) (fun n i (s : Unit) => laws_eqNodeS.l4 k _ _ n y y i) (fun i s => True) _ ?_ ?_ k 0 () (Nat.zero_le _) trivial (by omega)
  · rintro n s -
    simp only [laws_eqNodeS.l4, lt_dec_f, cond_false]
  · rintro n i s hi -
    have hm : K.big kNode y[i] + 1 ≤ K.big (.sl kNode) y := big_mem (e := kNode) (l := y) (List.getElem_mem hi)
    refine ⟨(), ?_, trivial⟩
    simp only [laws_eqNodeS.l4, lt_dec hi, inBn hi, cond_true, share_eq, getD_get _ hi, bne_self_eq_false, cond_false]
    rw [laws_eqNode.refl k _ rfl (by simp only; omega) (by simp only; omega)]
    simp only [Option.bind_some, Bool.not_true, cond_false]
    rw [next_i (by omega)]
theorem laws_eqWire.refl (k : Nat) (x : (Int × (List Int × (Int × (List Int × Unit)))) × (Int × (List Int × (Int × (List Int × Unit)))) × Unit) (he : x.2.1 = x.1) (hb : K.big kWire x.1 ≤ 4294967296) (hk : K.big kWire x.1 < k) : laws_eqWire.F k x = some ((true, ()), ()) := by
  obtain ⟨x, y, _⟩ := x
  simp only at he hb hk
  subst he
  unfold laws_eqWire.F
  (try simp only [bne_self_eq_false, cond_false])
  rw [laws_eqByteS.refl k _ rfl (by (try simp only [bigp, bigi, bigb, bigu, bigs, kerrorAddressString, kPrefix, kConfig, kboundsError, kEvent, kWire, kAttrs, kEntry, kRule, kWireResult, kSettings, kNode, kMail, kPair] at *); omega) (by (try simp only [bigp, bigi, bigb, bigu, bigs, kerrorAddressString, kPrefix, kConfig, kboundsError, kEvent, kWire, kAttrs, kEntry, kRule, kWireResult, kSettings, kNode, kMail, kPair] at *); omega)]
  (try simp only [Option.bind_some, Bool.not_true, cond_false, bne_self_eq_false, BEq.rfl])
  rw [laws_eqByteS.refl k _ rfl (by (try simp only [bigp, bigi, bigb, bigu, bigs, kerrorAddressString, kPrefix, kConfig, kboundsError, kEvent, kWire, kAttrs, kEntry, kRule, kWireResult, kSettings, kNode, kMail, kPair] at *); omega) (by (try simp only [bigp, bigi, bigb, bigu, bigs, kerrorAddressString, kPrefix, kConfig, kboundsError, kEvent, kWire, kAttrs, kEntry, kRule, kWireResult, kSettings, kNode, kMail, kPair] at *); omega)]
  (try simp only [Option.bind_some, Bool.not_true, cond_false, bne_self_eq_false, BEq.rfl])
theorem laws_eqWireS.refl (k : Nat) (x : List (Int × (List Int × (Int × (List Int × Unit)))) × List (Int × (List Int × (Int × (List Int × Unit)))) × Unit) (he : x.2.1 = x.1) (hb : K.big (.sl kWire) x.1 ≤ 4294967296) (hk : K.big (.sl kWire) x.1 < k) : laws_eqWireS.F k x = some ((true, ()), ()) := by
  obtain ⟨x, y, _⟩ := x
  simp only at he hb hk
  subst he
  have hl : y.length ≤ K.big (.sl kWire) y := big_len (e := kWire) y
  unfold laws_eqWireS.F
  simp only [bne_self_eq_false, cond_false]
  refine loop_inv (len := y.length) (fun n i (s : Unit) => laws_eqWireS.l4 k _ _ n y y i) (fun i s => True) _ ?_ ?_ k 0 () (Nat.zero_le _) trivial (by omega)
  · rintro n s -
    simp only [laws_eqWireS.l4, lt_dec_f, cond_false]
  · rintro n i s hi -
    have hm : K.big kWire y[i] + 1 ≤ K.big (.sl kWire) y := big_mem (e := kWire) (l := y) (List.getElem_mem hi)
    refine ⟨(), ?_, trivial⟩
    simp only [laws_eqWireS.l4, lt_dec hi, inBn hi, cond_true, share_eq, getD_get _ hi, bne_self_eq_false, cond_false]
    rw [laws_eqWire.refl k _ rfl (by simp only; omega) (by simp only; omega)]
    simp only [Option.bind_some, Bool.not_true, cond_false]
    rw [next_i (by omega)]
theorem laws_eqMail.refl (k : Nat) (x : (Int × (Int × (Int × (Int × (Int × (Bool × ((Int × ((Int × (Int × (List Int × Unit))) × Unit)) × Unit))))))) × (Int × (Int × (Int × (Int × (Int × (Bool × ((Int × ((Int × (Int × (List Int × Unit))) × Unit)) × Unit))))))) × Unit) (he : x.2.1 = x.1) (hb : K.big kMail x.1 ≤ 4294967296) (hk : K.big kMail x.1 < k) : laws_eqMail.F k x = some ((true, ()), ()) := by
  obtain ⟨x, y, _⟩ := x
  simp only at he hb hk
  subst he
  unfold laws_eqMail.F
  (try simp only [bne_self_eq_false, cond_false])
  rw [laws_eqEntry.refl k _ rfl (by (try simp only [bigp, bigi, bigb, bigu, bigs, kerrorAddressString, kPrefix, kConfig, kboundsError, kEvent, kWire, kAttrs, kEntry, kRule, kWireResult, kSettings, kNode, kMail, kPair] at *); omega) (by (try simp only [bigp, bigi, bigb, bigu, bigs, kerrorAddressString, kPrefix, kConfig, kboundsError, kEvent, kWire, kAttrs, kEntry, kRule, kWireResult, kSettings, kNode, kMail, kPair] at *); omega)]
  (try simp only [Option.bind_some, Bool.not_true, cond_false, bne_self_eq_false, BEq.rfl])
theorem laws_eqMailS.refl (k : Nat) (x : List (Int × (Int × (Int × (Int × (Int × (Bool × ((Int × ((Int × (Int × (List Int × Unit))) × Unit)) × Unit))))))) × List (Int × (Int × (Int × (Int × (Int × (Bool × ((Int × ((Int × (Int × (List Int × Unit))) × Unit)) × Unit))))))) × Unit) (he : x.2.1 = x.1) (hb : K.big (.sl kMail) x.1 ≤ 4294967296) (hk : K.big (.sl kMail) x.1 < k) : laws_eqMailS.F k x = some ((true, ()), ()) := by
  obtain ⟨x, y, _⟩ := x
  simp only at he hb hk
  subst he
  have hl : y.length ≤ K.big (.sl kMail) y := big_len (e := kMail) y
  unfold laws_eqMailS.F
  simp only [bne_self_eq_false, cond_false]
  refine loop_inv (len := y.length) (fun n i (s : Unit) => laws_eqMailS.l4 k _ _ n y y i) (fun i s => True) _ ?_ ?_ k 0 () (Nat.zero_le _) trivial (by omega)
  · rintro n s -
    simp only [laws_eqMailS.l4, lt_dec_f, cond_false]
  · rintro n i s hi -
    have hm : K.big kMail y[i] + 1 ≤ K.big (.sl kMail) y := big_mem (e := kMail) (l := y) (List.getElem_mem hi)
    refine ⟨(), ?_, trivial⟩
    simp only [laws_eqMailS.l4, lt_dec hi, inBn hi, cond_true, share_eq, getD_get _ hi, bne_self_eq_false, cond_false]
    rw [laws_eqMail.refl k _ rfl (by simp only; omega) (by simp only; omega)]
    simp only [Option.bind_some, Bool.not_true, cond_false]
    rw [next_i (by omega)]
theorem laws_eqPair.refl (k : Nat) (x : (((Int × (Int × (Int × Unit))) × (Int × (List ((Int × (Int × Unit)) × (Int × (Int × (Int × (Bool × (Int × (Int × Unit))))))) × (List ((Int × (Int × Unit)) × (Int × (Int × (Int × (Bool × (Int × (Int × Unit))))))) × Unit)))) × (List (Int × (Bool × (Int × (Int × (List (Int × ((Int × (Int × (List Int × Unit))) × Unit)) × (Int × (Int × (Int × (Int × Unit))))))))) × (List (Int × (List Int × (Int × (List Int × Unit)))) × (List (Int × (Int × (Int × (Int × (Int × (Bool × ((Int × ((Int × (Int × (List Int × Unit))) × Unit)) × Unit))))))) × (List (Int × ((Int × (Int × (List Int × Unit))) × Unit)) × Unit))))) × (((Int × (Int × (Int × Unit))) × (Int × (List ((Int × (Int × Unit)) × (Int × (Int × (Int × (Bool × (Int × (Int × Unit))))))) × (List ((Int × (Int × Unit)) × (Int × (Int × (Int × (Bool × (Int × (Int × Unit))))))) × Unit)))) × (List (Int × (Bool × (Int × (Int × (List (Int × ((Int × (Int × (List Int × Unit))) × Unit)) × (Int × (Int × (Int × (Int × Unit))))))))) × (List (Int × (List Int × (Int × (List Int × Unit)))) × (List (Int × (Int × (Int × (Int × (Int × (Bool × ((Int × ((Int × (Int × (List Int × Unit))) × Unit)) × Unit))))))) × (List (Int × ((Int × (Int × (List Int × Unit))) × Unit)) × Unit))))) × Unit) (he : x.2.1 = x.1) (hb : K.big kPair x.1 ≤ 4294967296) (hk : K.big kPair x.1 < k) : laws_eqPair.F k x = some ((true, ()), ()) := by
  obtain ⟨x, y, _⟩ := x
  simp only at he hb hk
  subst he
  unfold laws_eqPair.F
  (try simp only [bne_self_eq_false, cond_false])
  rw [laws_eqSettings.refl k _ rfl (by (try simp only [bigp, bigi, bigb, bigu, bigs, kerrorAddressString, kPrefix, kConfig, kboundsError, kEvent, kWire, kAttrs, kEntry, kRule, kWireResult, kSettings, kNode, kMail, kPair] at *); omega) (by (try simp only [bigp, bigi, bigb, bigu, bigs, kerrorAddressString, kPrefix, kConfig, kboundsError, kEvent, kWire, kAttrs, kEntry, kRule, kWireResult, kSettings, kNode, kMail, kPair] at *); omega)]
  (try simp only [Option.bind_some, Bool.not_true, cond_false, bne_self_eq_false, BEq.rfl])
  rw [laws_eqNodeS.refl k _ rfl (by (try simp only [bigp, bigi, bigb, bigu, bigs, kerrorAddressString, kPrefix, kConfig, kboundsError, kEvent, kWire, kAttrs, kEntry, kRule, kWireResult, kSettings, kNode, kMail, kPair] at *); omega) (by (try simp only [bigp, bigi, bigb, bigu, bigs, kerrorAddressString, kPrefix, kConfig, kboundsError, kEvent, kWire, kAttrs, kEntry, kRule, kWireResult, kSettings, kNode, kMail, kPair] at *); omega)]
  (try simp only [Option.bind_some, Bool.not_true, cond_false, bne_self_eq_false, BEq.rfl])
  rw [laws_eqWireS.refl k _ rfl (by (try simp only [bigp, bigi, bigb, bigu, bigs, kerrorAddressString, kPrefix, kConfig, kboundsError, kEvent, kWire, kAttrs, kEntry, kRule, kWireResult, kSettings, kNode, kMail, kPair] at *); omega) (by (try simp only [bigp, bigi, bigb, bigu, bigs, kerrorAddressString, kPrefix, kConfig, kboundsError, kEvent, kWire, kAttrs, kEntry, kRule, kWireResult, kSettings, kNode, kMail, kPair] at *); omega)]
  (try simp only [Option.bind_some, Bool.not_true, cond_false, bne_self_eq_false, BEq.rfl])
  rw [laws_eqMailS.refl k _ rfl (by (try simp only [bigp, bigi, bigb, bigu, bigs, kerrorAddressString, kPrefix, kConfig, kboundsError, kEvent, kWire, kAttrs, kEntry, kRule, kWireResult, kSettings, kNode, kMail, kPair] at *); omega) (by (try simp only [bigp, bigi, bigb, bigu, bigs, kerrorAddressString, kPrefix, kConfig, kboundsError, kEvent, kWire, kAttrs, kEntry, kRule, kWireResult, kSettings, kNode, kMail, kPair] at *); omega)]
  (try simp only [Option.bind_some, Bool.not_true, cond_false, bne_self_eq_false, BEq.rfl])
  rw [laws_eqEntryS.refl k _ rfl (by (try simp only [bigp, bigi, bigb, bigu, bigs, kerrorAddressString, kPrefix, kConfig, kboundsError, kEvent, kWire, kAttrs, kEntry, kRule, kWireResult, kSettings, kNode, kMail, kPair] at *); omega) (by (try simp only [bigp, bigi, bigb, bigu, bigs, kerrorAddressString, kPrefix, kConfig, kboundsError, kEvent, kWire, kAttrs, kEntry, kRule, kWireResult, kSettings, kNode, kMail, kPair] at *); omega)]
  (try simp only [Option.bind_some, Bool.not_true, cond_false, bne_self_eq_false, BEq.rfl])
end Go.Proofs.YtliaeahjdenlfaaGreat
/- What the small functions compute, in plain words: numbers, prefixes. -/
set_option linter.unusedVariables false
set_option linter.unusedSimpArgs false
namespace Go.Proofs.YtliaeahjdenlfaaGreat
open Go Go.Dn
theorem cond_some {α : Type} (b : Bool) (x y : α) : (bif b then some x else some y) = some (bif b then x else y) := by cases b <;> rfl
theorem cond_pair {α β : Type} (b : Bool) (x y : α) (u v : β) : (bif b then (x, u) else (y, v)) = (bif b then x else y, bif b then u else v) := by cases b <;> rfl
theorem cond_same {α : Type} (b : Bool) (x : α) : (bif b then x else x) = x := by cases b <;> rfl

def inR (x lo hi : Int) : Bool := decide (lo ≤ x) && decide (x ≤ hi)
theorem inR_iff {x lo hi : Int} : inR x lo hi = true ↔ lo ≤ x ∧ x ≤ hi := by simp [inR]
theorem in_form (x lo hi : Int) : (bif decide (x ≥ lo) then some ((decide (x ≤ hi), ()), ()) else some ((false, ()), ())) = some ((inR x lo hi, ()), ()) := by
  unfold inR
  by_cases h : lo ≤ x <;> simp [h]
theorem impl_in.eq (k : Nat) (x : Int × Int × Int × Unit) : impl_in.F k x = some ((inR x.1 x.2.1 x.2.2.1, ()), ()) := in_form _ _ _
theorem spec_l1In.eq (k : Nat) (x : Int × Int × Int × Unit) : spec_l1In.F k x = some ((inR x.1 x.2.1 x.2.2.1, ()), ()) := in_form _ _ _
theorem impl_isAddr.eq (k : Nat) (x : Int × Unit) : impl_isAddr.F k x = some ((inR x.1 0 65535, ()), ()) := by
  unfold impl_isAddr.F; rw [impl_in.eq]; rfl
theorem spec_l2Addr.eq (k : Nat) (x : Int × Unit) : spec_l2Addr.F k x = some ((inR x.1 0 65535, ()), ()) := by
  unfold spec_l2Addr.F; rw [spec_l1In.eq]; rfl

/-! ### Prefixes -/
def rest (n : Int) : Int := IntKind.wrap .i64 (shlV .i64 1 (16 - n) - 1)
def prefixFault (x : Int × Int × Unit) : Int :=
  bif !inR x.1 0 65535 then 3 else bif !inR x.2.1 0 16 then 3 else bif andV .i64 x.1 (rest x.2.1) != 0 then 1 else 0
theorem impl_PrefixFault.eq (k : Nat) (x : (Int × Int × Unit) × Unit) : impl_PrefixFault.F k x = some ((prefixFault x.1, ()), ()) := by
  unfold impl_PrefixFault.F prefixFault
  rw [impl_isAddr.eq, impl_in.eq]
  simp only [Option.bind_some]
  cases h1 : inR x.1.1 0 65535
  · rfl
  · cases h2 : inR x.1.2.1 0 16
    · rfl
    · have h3 := inR_iff.1 h2
      simp only [Bool.not_true, cond_false]
      rw [w64 (n := 16 - x.1.2.1) (by omega) (by omega), decide_eq_false (by omega), cond_false, cond_some, cond_pair, cond_pair]
      rfl
theorem spec_l2Rest.eq (k : Nat) (x : Int × Unit) (h : 0 ≤ x.1 ∧ x.1 ≤ 16) : spec_l2Rest.F k x = some ((rest x.1, ()), ()) := by
  unfold spec_l2Rest.F rest
  rw [w64 (n := 16 - x.1) (by omega) (by omega), wu64 (by omega) (by omega), decide_eq_false (by omega), cond_false]
theorem spec_PrefixFault.eq (k : Nat) (x : (Int × Int × Unit) × Unit) : spec_PrefixFault.F k x = some ((prefixFault x.1, ()), ()) := by
  unfold spec_PrefixFault.F prefixFault
  rw [spec_l2Addr.eq, spec_l1In.eq]
  simp only [Option.bind_some]
  cases h1 : inR x.1.1 0 65535
  · rfl
  · cases h2 : inR x.1.2.1 0 16
    · rfl
    · simp only [Bool.not_true, cond_false]
      rw [spec_l2Rest.eq k _ (inR_iff.1 h2)]
      simp only [Option.bind_some]
      rw [cond_some, cond_pair, cond_pair, cond_same]
theorem drop_step {α : Type} {l : List α} {i : Nat} (h : i < l.length) : l.drop i = l[i] :: l.drop (i + 1) := List.drop_eq_getElem_cons h
/-- The first fault in a list. -/
def firstF {α : Type} (f : α → Int) : List α → Int
  | [] => 0
  | x :: r => bif f x != 0 then f x else firstF f r
theorem bne_zero {n : Int} (h : n ≠ 0) : (n != 0) = true := by simp [h]
end Go.Proofs.YtliaeahjdenlfaaGreat
/- Rules, configurations, settings: what is not right of them. -/
set_option linter.unusedVariables false
set_option linter.unusedSimpArgs false
namespace Go.Proofs.YtliaeahjdenlfaaGreat
open Go Go.Dn
abbrev TRule := (Int × Int × Unit) × Int × Int × Int × Bool × Int × Int × Unit
abbrev TConfig := Int × Int × Int × Unit
abbrev TSettings := TConfig × Int × List TRule × List TRule × Unit
theorem impl_isTwo.eq (k : Nat) (x : Int × Unit) : impl_isTwo.F k x = some ((inR x.1 0 65535, ()), ()) := by
  unfold impl_isTwo.F; rw [impl_in.eq]; rfl
theorem spec_l3Word.eq (k : Nat) (x : Int × Unit) : spec_l3Word.F k x = some ((inR x.1 0 65535, ()), ()) := by
  unfold spec_l3Word.F; rw [spec_l1In.eq]; rfl
theorem impl_isSystem.eq (k : Nat) (x : Int × Unit) : impl_isSystem.F k x = some ((inR x.1 1 65535, ()), ()) := by
  unfold impl_isSystem.F; rw [impl_in.eq]; rfl
def isHold (x : Int) : Bool := bif x == 0 then true else inR x 3 200
theorem impl_isHold.eq (k : Nat) (x : Int × Unit) : impl_isHold.F k x = some ((isHold x.1, ()), ()) := by
  unfold impl_isHold.F isHold; rw [impl_in.eq]; simp only [Option.bind_some, cond_some, cond_pair, cond_same]
theorem spec_l4Hold.eq (k : Nat) (x : Int × Unit) : spec_l4Hold.F k x = some ((isHold x.1, ()), ()) := by
  unfold spec_l4Hold.F isHold; rw [spec_l1In.eq]; simp only [Option.bind_some, cond_some, cond_pair, cond_same]
def configFault (x : TConfig) : Int := bif !inR x.1 1 65535 then 3 else bif !inR x.2.1 1 65535 then 3 else bif !isHold x.2.2.1 then 3 else 0
theorem impl_ConfigFault.eq (k : Nat) (x : TConfig × Unit) : impl_ConfigFault.F k x = some ((configFault x.1, ()), ()) := by
  unfold impl_ConfigFault.F configFault
  rw [impl_isSystem.eq, impl_isSystem.eq, impl_isHold.eq]
  simp only [Option.bind_some, cond_some, cond_pair, cond_same]
theorem spec_ConfigFault.eq (k : Nat) (x : TConfig × Unit) : spec_ConfigFault.F k x = some ((configFault x.1, ()), ()) := by
  unfold spec_ConfigFault.F configFault
  rw [spec_l1In.eq, spec_l1In.eq, spec_l4Hold.eq]
  simp only [Option.bind_some, cond_some, cond_pair, cond_same]
def ruleFault (x : TRule) : Int :=
  bif prefixFault x.1 != 0 then prefixFault x.1 else bif !inR x.2.1 0 16 then 3 else bif !inR x.2.2.1 0 16 then 3 else bif !inR x.2.2.2.1 0 65535 then 3 else
  bif !inR x.2.2.2.2.2.1 (-1) 65535 then 3 else bif !inR x.2.2.2.2.2.2.1 0 3 then 3 else bif decide (x.2.1 > x.2.2.1) then 1 else
  bif x.2.2.2.2.1 then (bif x.2.2.2.2.2.1 != -1 then 1 else bif x.2.2.2.2.2.2.1 != 0 then 1 else 0) else 0
theorem impl_RuleFault.eq (k : Nat) (x : TRule × Unit) : impl_RuleFault.F k x = some ((ruleFault x.1, ()), ()) := by
  unfold impl_RuleFault.F ruleFault
  rw [impl_PrefixFault.eq, impl_in.eq, impl_in.eq, impl_isTwo.eq, impl_in.eq, impl_in.eq]
  simp only [Option.bind_some, cond_some, cond_pair, cond_same]
theorem spec_RuleFault.eq (k : Nat) (x : TRule × Unit) : spec_RuleFault.F k x = some ((ruleFault x.1, ()), ()) := by
  unfold spec_RuleFault.F ruleFault
  rw [spec_PrefixFault.eq, spec_l1In.eq, spec_l1In.eq, spec_l3Word.eq, spec_l1In.eq, spec_l1In.eq]
  simp only [Option.bind_some, cond_some, cond_pair, cond_same]
def rulesFault (x : List TRule) : Int := bif decide ((x.length : Int) > 8) then 2 else firstF ruleFault x
theorem impl_RulesFault.eq (k : Nat) (x : List TRule × Unit) (hk : 8 < k) : impl_RulesFault.F k x = some ((rulesFault x.1, ()), ()) := by
  obtain ⟨x, _⟩ := x
  unfold impl_RulesFault.F rulesFault
  by_cases hl : (x.length : Int) > 8
  · simp only [decide_eq_true hl, cond_true]
  simp only [decide_eq_false hl, cond_false]
  refine loop_up (len := x.length) (fun n i (_ : Unit) => impl_RulesFault.l4 k _ _ n x x.length i) (fun _ _ => True) (fun i _ => some ((firstF ruleFault (x.drop i), ()), ())) ?_ ?_ k 0 () (Nat.zero_le _) trivial (by omega)
  · rintro n s -
    simp only [impl_RulesFault.l4, lt_dec_f, cond_false, List.drop_length, firstF]
  · rintro n i s hi -
    simp only [impl_RulesFault.l4, lt_dec hi, inBn hi, cond_true, share_eq, getD_get _ hi]
    rw [impl_RuleFault.eq]
    simp only [Option.bind_some, drop_step hi, firstF]
    cases h : ruleFault x[i] != 0
    · exact .inr ⟨(), by rw [cond_false, next_i (by omega)], trivial, by simp only [cond_false]⟩
    · exact .inl (by simp only [cond_true])
theorem spec_RulesFault.eq (k : Nat) (x : List TRule × Unit) (hk : 8 < k) : spec_RulesFault.F k x = some ((rulesFault x.1, ()), ()) := by
  obtain ⟨x, _⟩ := x
  unfold spec_RulesFault.F rulesFault
  by_cases hl : (x.length : Int) > 8
  · simp only [decide_eq_true hl, cond_true]
  simp only [decide_eq_false hl, cond_false]
  refine loop_up (len := x.length) (fun n i (_ : Unit) => spec_RulesFault.l4 k _ _ n x i) (fun _ _ => True) (fun i _ => some ((firstF ruleFault (x.drop i), ()), ())) ?_ ?_ k 0 () (Nat.zero_le _) trivial (by omega)
  · rintro n s -
    simp only [spec_RulesFault.l4, lt_dec_f, cond_false, List.drop_length, firstF]
  · rintro n i s hi -
    simp only [spec_RulesFault.l4, lt_dec hi, inBn hi, cond_true, share_eq, getD_get _ hi]
    rw [spec_RuleFault.eq]
    simp only [Option.bind_some, drop_step hi, firstF]
    cases h : ruleFault x[i] != 0
    · exact .inr ⟨(), by rw [cond_false, next_i (by omega)], trivial, by simp only [cond_false]⟩
    · exact .inl (by simp only [cond_true])
def settingsFault (x : TSettings) : Int :=
  bif configFault x.1 != 0 then configFault x.1 else bif !inR x.2.1 0 65535 then 3 else bif rulesFault x.2.2.1 != 0 then rulesFault x.2.2.1 else rulesFault x.2.2.2.1
theorem impl_SettingsFault.eq (k : Nat) (x : TSettings × Unit) (hk : 8 < k) : impl_SettingsFault.F k x = some ((settingsFault x.1, ()), ()) := by
  unfold impl_SettingsFault.F settingsFault
  rw [impl_ConfigFault.eq, impl_isAddr.eq, impl_RulesFault.eq k _ hk, impl_RulesFault.eq k _ hk]
  simp only [Option.bind_some, cond_some, cond_pair, cond_same]
theorem spec_SettingsFault.eq (k : Nat) (x : TSettings × Unit) (hk : 8 < k) : spec_SettingsFault.F k x = some ((settingsFault x.1, ()), ()) := by
  unfold spec_SettingsFault.F settingsFault
  rw [spec_ConfigFault.eq, spec_l2Addr.eq, spec_RulesFault.eq k _ hk, spec_RulesFault.eq k _ hk]
  simp only [Option.bind_some, cond_some, cond_pair, cond_same]
end Go.Proofs.YtliaeahjdenlfaaGreat
/- Events, entries, nodes, mails, wires: what is not right of them. -/
set_option linter.unusedVariables false
set_option linter.unusedSimpArgs false
namespace Go.Proofs.YtliaeahjdenlfaaGreat
open Go Go.Dn
abbrev TEvent := Int × Int × List Int × Unit
abbrev TEntry := Int × TEvent × Unit
abbrev TNode := Int × Bool × Int × Int × List TEntry × Int × Int × Int × Int × Unit
abbrev TMail := Int × Int × Int × Int × Int × Bool × TEntry × Unit
abbrev TWire := Int × List Int × Int × List Int × Unit
theorem impl_isEpoch.eq (k : Nat) (x : Int × Unit) : impl_isEpoch.F k x = some ((inR x.1 1 1000, ()), ()) := by
  unfold impl_isEpoch.F; rw [impl_in.eq]; rfl
theorem spec_l10Epoch.eq (k : Nat) (x : Int × Unit) : spec_l10Epoch.F k x = some ((inR x.1 1 1000, ()), ()) := by
  unfold spec_l10Epoch.F; rw [spec_l1In.eq]; rfl
theorem impl_isPeer.eq (k : Nat) (x : Int × Unit) : impl_isPeer.F k x = some ((inR x.1 0 2, ()), ()) := by
  unfold impl_isPeer.F; rw [impl_in.eq]; rfl
theorem spec_l7Peer.eq (k : Nat) (x : Int × Unit) : spec_l7Peer.F k x = some ((inR x.1 0 2, ()), ()) := by
  unfold spec_l7Peer.F; rw [spec_l1In.eq]; rfl
theorem impl_isNode.eq (k : Nat) (x : Int × Unit) : impl_isNode.F k x = some ((inR x.1 0 1, ()), ()) := by
  unfold impl_isNode.F; rw [impl_in.eq]; rfl
def eventFault (x : TEvent) : Int :=
  bif !inR x.1 1 4 then 1 else bif !inR x.2.1 0 2 then 3 else bif (x.1 == 3) && (x.2.1 != 0) then 3 else
  bif !(decide ((x.2.2.1.length : Int) > 0) == (x.1 == 2)) then 1 else bif decide ((x.2.2.1.length : Int) > 60) then 2 else 0
theorem impl_EventFault.eq (k : Nat) (x : TEvent × Unit) : impl_EventFault.F k x = some ((eventFault x.1, ()), ()) := by
  unfold impl_EventFault.F eventFault
  rw [impl_in.eq, impl_isPeer.eq]
  simp only [Option.bind_some, cond_some, cond_pair, cond_same]
  generalize (x.1.1 == 3) = a; generalize (x.1.2.1 != 0) = b; generalize (x.1.1 == 2) = c; generalize decide ((x.1.2.2.1.length : Int) > 0) = d
  cases a <;> cases b <;> cases c <;> cases d <;> rfl
theorem spec_EventFault.eq (k : Nat) (x : TEvent × Unit) : spec_EventFault.F k x = some ((eventFault x.1, ()), ()) := by
  unfold spec_EventFault.F eventFault
  rw [spec_l1In.eq, spec_l7Peer.eq]
  simp only [Option.bind_some, cond_some, cond_pair, cond_same]
  generalize (x.1.1 == 3) = a; generalize (x.1.2.1 != 0) = b; generalize (x.1.1 == 2) = c; generalize decide ((x.1.2.2.1.length : Int) > 0) = d
  cases a <;> cases b <;> cases c <;> cases d <;> rfl
def entryFault (x : TEntry) : Int := bif !inR x.1 1 1000 then 3 else eventFault x.2.1
theorem impl_EntryFault.eq (k : Nat) (x : TEntry × Unit) : impl_EntryFault.F k x = some ((entryFault x.1, ()), ()) := by
  unfold impl_EntryFault.F entryFault
  rw [impl_isEpoch.eq, impl_EventFault.eq]
  simp only [Option.bind_some, cond_some, cond_pair, cond_same]
theorem spec_EntryFault.eq (k : Nat) (x : TEntry × Unit) : spec_EntryFault.F k x = some ((entryFault x.1, ()), ()) := by
  unfold spec_EntryFault.F entryFault
  rw [spec_l10Epoch.eq, spec_EventFault.eq]
  simp only [Option.bind_some, cond_some, cond_pair, cond_same]

/-! ### Nodes -/
/-- The epoch ahead of place i. -/
def prevOf (l : List TEntry) : Nat → Option Int
  | 0 => none
  | i + 1 => some (l.getD i (0, (0, 0, [], ()), ())).1
def below (n : Int) : Option Int → Bool
  | none => false
  | some p => decide (n < p)
def logF (e : Int) : Option Int → List TEntry → Int
  | _, [] => 0
  | p, x :: r => bif entryFault x != 0 then entryFault x else bif decide (x.1 > e) then 1 else bif below x.1 p then 1 else logF e (some x.1) r
theorem prev_get {l : List TEntry} {i : Nat} (hi : i < l.length) : prevOf l (i + 1) = some l[i].1 := by
  simp [prevOf, List.getD, hi]
theorem cond_c {α : Type} {n : Int} (h : (n != 0) = true) (a b : α) : (bif n != 0 then a else b) = a := by rw [h]; rfl
theorem spec_l12Log.eq (k : Nat) (x : TNode × Unit) (hk : 200 < k) :
    spec_l12Log.F k x = some ((bif decide ((x.1.2.2.2.2.1.length : Int) > 100) then 2 else logF x.1.2.2.2.1 none x.1.2.2.2.2.1, ()), ()) := by
  obtain ⟨x, _⟩ := x
  unfold spec_l12Log.F
  by_cases hl : (x.2.2.2.2.1.length : Int) > 100
  · simp only [decide_eq_true hl, cond_true]
  simp only [decide_eq_false hl, cond_false]
  refine loop_up (len := x.2.2.2.2.1.length) (fun n i (_ : Unit) => spec_l12Log.l4 k _ _ n x i) (fun _ _ => True) (fun i _ => some ((logF x.2.2.2.1 (prevOf x.2.2.2.2.1 i) (x.2.2.2.2.1.drop i), ()), ())) ?_ ?_ k 0 () (Nat.zero_le _) trivial (by omega)
  · rintro n s -
    simp only [spec_l12Log.l4, lt_dec_f, cond_false, List.drop_length, logF]
  · rintro n i s hi -
    simp only [spec_l12Log.l4, lt_dec hi, inBn hi, cond_true, share_eq, getD_get _ hi]
    rw [spec_EntryFault.eq]
    simp only [Option.bind_some, drop_step hi, logF]
    cases h : entryFault x.2.2.2.2.1[i] != 0
    · simp only [cond_false]
      cases h2 : decide (x.2.2.2.2.1[i].1 > x.2.2.2.1)
      · simp only [cond_false]
        rw [next_i (by omega), prev_get hi]
        cases i with
        | zero => exact .inr ⟨(), rfl, trivial, by simp only [prevOf, below, cond_false]⟩
        | succ j =>
          have hj : j < x.2.2.2.2.1.length := by omega
          rw [show ((j + 1 : Nat) : Int) - 1 = (j : Int) by omega, w64 (by omega) (by omega), decide_eq_true (by omega), cond_true, inBn hj, cond_true, getD_get _ hj, prev_get hj]
          simp only [below]
          cases h3 : decide (x.2.2.2.2.1[j + 1].1 < x.2.2.2.2.1[j].1)
          · exact .inr ⟨(), rfl, trivial, by simp only [cond_false]⟩
          · exact .inl (by simp only [cond_true])
      · exact .inl (by simp only [cond_true])
    · exact .inl (by simp only [cond_true])
/-- What is not right behind the log. -/
def nodeTail (x : TNode) : Int :=
  bif !inR x.2.2.2.2.2.1 0 x.2.2.2.2.1.length then 3 else bif !inR x.2.2.2.2.2.2.1 0 x.2.2.2.2.1.length then 3 else
  bif !inR x.2.2.2.2.2.2.2.1 0 x.2.2.2.2.1.length then 3 else bif !inR x.2.2.2.2.2.2.2.2.1 0 x.2.2.2.2.2.1 then 3 else
  bif (x.2.2.1 == 1) && (!x.2.1 || (x.2.2.2.1 == 0) || (x.2.2.2.2.2.2.1 != 0)) then 1 else bif !(x.2.2.1 == 1) && (x.2.2.2.2.2.2.2.1 != 0) then 1 else
  bif !x.2.1 && ((x.2.2.2.2.2.1 != x.2.2.2.2.1.length) || (x.2.2.2.2.2.2.1 != 0) || (x.2.2.2.2.2.2.2.2.1 != 0)) then 1 else 0
def logFault (x : TNode) : Int := bif decide ((x.2.2.2.2.1.length : Int) > 100) then 2 else logF x.2.2.2.1 none x.2.2.2.2.1
def nodeFault (x : TNode) : Int :=
  bif !inR x.1 0 1 then 3 else bif !inR x.2.2.1 0 1 then 3 else bif !inR x.2.2.2.1 0 1000 then 3 else bif logFault x != 0 then logFault x else nodeTail x
theorem spec_l12Fault.eq (k : Nat) (x : TNode × Unit) (hk : 200 < k) : spec_l12Fault.F k x = some ((nodeFault x.1, ()), ()) := by
  obtain ⟨⟨id, up, role, ep, log, sure, mat, oth, com, _⟩, _⟩ := x
  unfold spec_l12Fault.F nodeFault
  rw [spec_l12Log.eq k _ hk]
  simp only [spec_l1In.eq, Option.bind_some, cond_some, cond_pair, cond_same, logFault, nodeTail]
  generalize (role == 1) = a; generalize (ep == 0) = b; generalize (mat != 0) = c; generalize (oth != 0) = d; generalize (sure != (log.length : Int)) = e; generalize (com != 0) = f
  generalize (bif decide ((log.length : Int) > 100) then (2 : Int) else logF ep none log) = g
  cases a <;> cases up <;> cases b <;> cases c <;> cases d <;> cases e <;> cases f <;> rfl
theorem impl_size_impl_Entry.eq (k : Nat) (x : List TEntry × Unit) : impl_size_impl_Entry.F k x = some (((x.1.length : Int), ()), ()) := rfl
theorem impl_size_byte.eq (k : Nat) (x : List Int × Unit) : impl_size_byte.F k x = some (((x.1.length : Int), ()), ()) := rfl
theorem impl_NodeFault.loop {ρ : Type} (k : Nat) (c0 : Int × Unit → Option ρ) (c1 : TNode → Option ρ) (x : TNode) (hl : x.2.2.2.2.1.length ≤ 100) (hk : 200 < k) :
    impl_NodeFault.l6 k c0 c1 k x.2.2.2.2.1 (x.2.2.2.2.1.length : Int) 0 x.1 x.2.1 x.2.2.1 x.2.2.2.1 x.2.2.2.2.1 x.2.2.2.2.2.1 x.2.2.2.2.2.2.1 x.2.2.2.2.2.2.2.1 x.2.2.2.2.2.2.2.2.1
      = bif logF x.2.2.2.1 none x.2.2.2.2.1 != 0 then c0 (logF x.2.2.2.1 none x.2.2.2.2.1, ()) else c1 x := by
  obtain ⟨id, up, role, ep, log, sure, mat, oth, com, _⟩ := x
  simp only at hl ⊢
  refine loop_up (len := log.length) (fun n i (_ : Unit) => impl_NodeFault.l6 k c0 c1 n log log.length i id up role ep log sure mat oth com) (fun _ _ => True) (fun i _ => bif logF ep (prevOf log i) (log.drop i) != 0 then c0 (logF ep (prevOf log i) (log.drop i), ()) else c1 (id, up, role, ep, log, sure, mat, oth, com, ())) ?_ ?_ k 0 () (Nat.zero_le _) trivial (by omega)
  · rintro n s -
    simp only [impl_NodeFault.l6, lt_dec_f, cond_false, List.drop_length, logF, bne_self_eq_false]
  · rintro n i s hi -
    simp only [impl_NodeFault.l6, lt_dec hi, inBn hi, cond_true, share_eq, getD_get _ hi]
    rw [impl_EntryFault.eq]
    simp only [Option.bind_some, drop_step hi, logF]
    cases h : entryFault log[i] != 0
    · simp only [cond_false]
      cases h2 : decide (log[i].1 > ep)
      · simp only [cond_false]
        rw [next_i (by omega), prev_get hi]
        cases i with
        | zero => exact .inr ⟨(), rfl, trivial, by simp only [prevOf, below, cond_false]⟩
        | succ j =>
          have hj : j < log.length := by omega
          rw [show ((j + 1 : Nat) : Int) - 1 = (j : Int) by omega, w64 (by omega) (by omega), decide_eq_true (by omega), cond_true, inBn hj, cond_true, getD_get _ hj, prev_get hj]
          simp only [below]
          cases h3 : decide (log[j + 1].1 < log[j].1)
          · exact .inr ⟨(), rfl, trivial, by simp only [cond_false]⟩
          · exact .inl (by simp only [cond_true]; rfl)
      · exact .inl (by simp only [cond_true]; rfl)
    · exact .inl (by simp only [cond_true, h])
theorem impl_NodeFault.eq (k : Nat) (x : TNode × Unit) (hk : 200 < k) : impl_NodeFault.F k x = some ((nodeFault x.1, ()), ()) := by
  obtain ⟨x, _⟩ := x
  unfold impl_NodeFault.F nodeFault
  by_cases hl : (x.2.2.2.2.1.length : Int) > 100
  · simp only [impl_isNode.eq, impl_in.eq, Option.bind_some, decide_eq_true hl, cond_true, logFault, cond_some, cond_pair, cond_same]
    rfl
  rw [impl_NodeFault.loop k _ _ x (by omega) hk]
  simp only [impl_isNode.eq, impl_in.eq, impl_size_impl_Entry.eq, Option.bind_some, decide_eq_false hl, cond_false, logFault, cond_some, cond_pair, cond_same, nodeTail]
  obtain ⟨id, up, role, ep, log, sure, mat, oth, com, _⟩ := x
  simp only
  generalize (role == 1) = a; generalize (ep == 0) = b; generalize (mat != 0) = c; generalize (oth != 0) = d; generalize (sure != (log.length : Int)) = e; generalize (com != 0) = f
  cases a <;> cases up <;> cases b <;> cases c <;> cases d <;> cases e <;> cases f <;> rfl

/-! ### Mails -/
def entryZero (x : TEntry) : Bool := (x.1 == 0) && (x.2.1.1 == 0) && (x.2.1.2.1 == 0) && ((x.2.1.2.2.1.length : Int) == 0)
theorem impl_Entry_isZero.eq (k : Nat) (x : TEntry × Unit) : impl_Entry_isZero.F k x = some ((entryZero x.1, ()), ()) := by
  unfold impl_Entry_isZero.F entryZero
  simp only [cond_some, cond_pair, cond_same]
  cases x.1.1 == 0 <;> cases x.1.2.1.1 == 0 <;> cases x.1.2.1.2.1 == 0 <;> simp
theorem spec_l12Zero.eq (k : Nat) (x : TEntry × Unit) : spec_l12Zero.F k x = some ((entryZero x.1, ()), ()) := by
  unfold spec_l12Zero.F entryZero
  simp only [cond_some, cond_pair, cond_same]
  cases x.1.1 == 0 <;> cases x.1.2.1.1 == 0 <;> cases x.1.2.1.2.1 == 0 <;> simp
def mailForm (x : TMail) : Bool :=
  bif x.1 == 2 then !x.2.2.2.2.2.1 && (x.2.2.2.2.1 == 0) && entryZero x.2.2.2.2.2.2.1
  else ((x.2.2.2.1 == 0) == (x.2.2.2.2.1 == 0)) && (x.2.2.2.2.2.1 || entryZero x.2.2.2.2.2.2.1) && decide (x.2.2.2.2.1 ≤ x.2.2.1)
theorem spec_l12Form.eq (k : Nat) (x : TMail × Unit) : spec_l12Form.F k x = some ((mailForm x.1, ()), ()) := by
  obtain ⟨⟨kind, to, ep, att, prev, has, e, _⟩, _⟩ := x
  unfold spec_l12Form.F mailForm
  simp only [spec_l12Zero.eq, Option.bind_some, cond_some, cond_pair, cond_same]
  generalize (kind == 2) = a; generalize ((att == 0) == (prev == 0)) = b; generalize (prev == 0) = c; generalize entryZero e = d
  cases a <;> cases b <;> cases c <;> cases d <;> cases has <;> simp
def mailF (id : Int) (x : TMail) : Int :=
  bif !inR x.1 1 2 then 1 else bif x.2.1 != id then 1 else bif !inR x.2.2.1 1 1000 then 3 else bif !inR x.2.2.2.1 0 100 then 3 else bif !inR x.2.2.2.2.1 0 1000 then 3 else
  bif !mailForm x then 1 else bif x.2.2.2.2.2.1 then (bif entryFault x.2.2.2.2.2.2.1 != 0 then entryFault x.2.2.2.2.2.2.1 else bif decide (x.2.2.2.2.2.2.1.1 > x.2.2.1) then 1 else bif decide (x.2.2.2.2.2.2.1.1 < x.2.2.2.2.1) then 1 else 0) else 0
theorem spec_l12Mail.eq (k : Nat) (x : TNode × TMail × Unit) : spec_l12Mail.F k x = some ((mailF x.1.1 x.2.1, ()), ()) := by
  unfold spec_l12Mail.F mailF
  simp only [spec_l1In.eq, spec_l10Epoch.eq, spec_l12Form.eq, spec_EntryFault.eq, Option.bind_some, cond_some, cond_pair, cond_same]
theorem impl_MailFault.eq (k : Nat) (x : TNode × TMail × Unit) (hk : 200 < k) : impl_MailFault.F k x = some ((bif nodeFault x.1 != 0 then nodeFault x.1 else mailF x.1.1 x.2.1, ()), ()) := by
  obtain ⟨n, ⟨kind, to, ep, att, prev, has, e, _⟩, _⟩ := x
  unfold impl_MailFault.F mailF mailForm
  rw [impl_NodeFault.eq k _ hk]
  simp only [impl_in.eq, impl_isEpoch.eq, impl_Entry_isZero.eq, impl_EntryFault.eq, Option.bind_some, cond_some, cond_pair, cond_same]
  by_cases hn : (nodeFault n != 0) = true
  · simp only [hn, cond_true]
  rw [Bool.eq_false_iff.2 hn]
  simp only [cond_false]
  by_cases k1 : kind = 1
  · subst k1
    simp only [show ((1 : Int) != 1) = false from rfl, show ((1 : Int) == 2) = false from rfl, show ((1 : Int) == 1) = true from rfl, show inR 1 1 2 = true from rfl, cond_false, cond_true, Bool.not_true]
    rw [show decide (prev > ep) = !decide (prev ≤ ep) from by by_cases h : prev ≤ ep <;> simp [h] <;> omega]
    generalize ((att == 0) == (prev == 0)) = b; generalize entryZero e = d; generalize decide (prev ≤ ep) = f; generalize (to != n.1) = g; generalize inR ep 1 1000 = h; generalize inR att 0 100 = i; generalize inR prev 0 1000 = j
    cases b <;> cases d <;> cases f <;> cases has <;> cases g <;> cases h <;> cases i <;> cases j <;> rfl
  · by_cases k2 : kind = 2
    · subst k2
      simp only [show ((2 : Int) != 1) = true from rfl, show ((2 : Int) != 2) = false from rfl, show ((2 : Int) == 2) = true from rfl, show ((2 : Int) == 1) = false from rfl, show inR 2 1 2 = true from rfl, cond_false, cond_true, Bool.not_true]
      cases h : inR ep 1 1000
      · cases (to != n.1) <;> rfl
      by_cases hp : prev = 0
      · subst hp
        rw [decide_eq_false (show ¬ (0 : Int) > ep by have := inR_iff.1 h; omega)]
        simp only [show ((0 : Int) != 0) = false from rfl, show ((0 : Int) == 0) = true from rfl]
        generalize entryZero e = d; generalize (to != n.1) = g; generalize inR att 0 100 = i; generalize inR 0 0 1000 = j
        cases d <;> cases has <;> cases g <;> cases i <;> cases j <;> rfl
      · have e1 : (prev != 0) = true := by simp [hp]
        have e2 : (prev == 0) = false := by simp [hp]
        simp only [e1, e2]
        generalize entryZero e = d; generalize (to != n.1) = g; generalize inR att 0 100 = i; generalize inR prev 0 1000 = j
        cases d <;> cases has <;> cases g <;> cases i <;> cases j <;> rfl
    · have e1 : (kind != 1) = true := by simp [k1]
      have e2 : (kind != 2) = true := by simp [k2]
      have e3 : inR kind 1 2 = false := by simp [inR]; omega
      simp only [e1, e2, e3, cond_true, Bool.not_false]

/-! ### Wires -/
def wireFault (x : TWire) : Int :=
  bif !inR x.1 0 1000 then 3 else bif decide ((x.2.1.length : Int) > 2000) then 2 else bif decide ((x.2.2.2.1.length : Int) > 2000) then 2 else bif !inR x.2.2.1 0 x.2.1.length then 3 else 0
theorem impl_WireFault.eq (k : Nat) (x : TWire × Unit) : impl_WireFault.F k x = some ((wireFault x.1, ()), ()) := by
  unfold impl_WireFault.F wireFault
  simp only [impl_in.eq, impl_size_byte.eq, Option.bind_some, cond_some, cond_pair, cond_same]
theorem spec_WireFault.eq (k : Nat) (x : TWire × Unit) : spec_WireFault.F k x = some ((wireFault x.1, ()), ()) := by
  unfold spec_WireFault.F wireFault
  simp only [spec_l1In.eq, Option.bind_some, cond_some, cond_pair, cond_same]
end Go.Proofs.YtliaeahjdenlfaaGreat
/- Pairs: what is not right of them, in plain words. -/
set_option linter.unusedVariables false
set_option linter.unusedSimpArgs false
namespace Go.Proofs.YtliaeahjdenlfaaGreat
open Go Go.Dn
abbrev TPair := TSettings × List TNode × List TWire × List TMail × List TEntry × Unit
def nodesF : Int → List TNode → Int
  | _, [] => 0
  | i, n :: r => bif nodeFault n != 0 then nodeFault n else bif n.1 != i then 1 else nodesF (i + 1) r
theorem nodesF_zero : ∀ (l : List TNode) (i : Int), nodesF i l = 0 → ∀ n ∈ l, nodeFault n = 0
  | [], _, _, n, h => by cases h
  | x :: l, i, h, n, hn => by
    simp only [nodesF] at h
    by_cases e : nodeFault x = 0
    · rw [e] at h
      simp only [bne_self_eq_false, cond_false] at h
      rcases List.mem_cons.1 hn with rfl | hn
      · exact e
      · cases e2 : x.1 != i
        · rw [e2, cond_false] at h; exact nodesF_zero l _ h n hn
        · rw [e2, cond_true] at h; exact absurd h (by decide)
    · rw [bne_zero e, cond_true] at h; exact absurd h e
def nodeZ : TNode := (0, false, 0, 0, [], 0, 0, 0, 0, ())
def mailP (nodes : List TNode) (m : TMail) : Int := bif !inR m.2.1 0 1 then 1 else mailF (nodes.getD m.2.1.toNat nodeZ).1 m
def pairFault (p : TPair) : Int :=
  bif settingsFault p.1 != 0 then settingsFault p.1 else bif (p.2.1.length : Int) != 2 then 1 else bif (p.2.2.1.length : Int) != 3 then 1 else
  bif nodesF 0 p.2.1 != 0 then nodesF 0 p.2.1 else bif firstF wireFault p.2.2.1 != 0 then firstF wireFault p.2.2.1 else
  bif decide ((p.2.2.2.1.length : Int) > 40) then 2 else bif firstF (mailP p.2.1) p.2.2.2.1 != 0 then firstF (mailP p.2.1) p.2.2.2.1 else
  bif decide ((p.2.2.2.2.1.length : Int) > 100) then 2 else firstF entryFault p.2.2.2.2.1

theorem spec_l14Nodes.eq (k : Nat) (x : TPair × Unit) (h2 : x.1.2.1.length = 2) (hk : 200 < k) : spec_l14Nodes.F k x = some ((nodesF 0 x.1.2.1, ()), ()) := by
  obtain ⟨x, _⟩ := x
  simp only at h2
  unfold spec_l14Nodes.F
  refine loop_up (len := x.2.1.length) (fun n i (_ : Unit) => spec_l14Nodes.l2 k _ _ n x i) (fun _ _ => True) (fun i _ => some ((nodesF i (x.2.1.drop i), ()), ())) ?_ ?_ k 0 () (Nat.zero_le _) trivial (by omega)
  · rintro n s -
    simp only [spec_l14Nodes.l2]
    rw [decide_eq_false (by omega), cond_false]
    simp only [List.drop_length, nodesF]
  · rintro n i s hi -
    simp only [spec_l14Nodes.l2, inBn hi, cond_true, share_eq, getD_get _ hi]
    rw [decide_eq_true (by omega), cond_true, spec_l12Fault.eq k _ hk]
    simp only [Option.bind_some, drop_step hi, nodesF]
    cases h : nodeFault x.2.1[i] != 0
    · simp only [cond_false]
      cases h3 : x.2.1[i].1 != (i : Int)
      · exact .inr ⟨(), by rw [cond_false, next_i (by omega)], trivial, by simp only [cond_false]; rfl⟩
      · exact .inl (by simp only [cond_true])
    · exact .inl (by simp only [cond_true])
theorem getD_z {l : List TNode} {i : Nat} (h : i < l.length) (d : TNode) : l.getD i d = l.getD i nodeZ := by
  simp [List.getD, h]
theorem spec_l14Mails.eq (k : Nat) (x : TPair × Unit) (h2 : x.1.2.1.length = 2) (hk : 200 < k) :
    spec_l14Mails.F k x = some ((bif decide ((x.1.2.2.2.1.length : Int) > 40) then 2 else firstF (mailP x.1.2.1) x.1.2.2.2.1, ()), ()) := by
  obtain ⟨x, _⟩ := x
  simp only at h2
  unfold spec_l14Mails.F
  by_cases hl : (x.2.2.2.1.length : Int) > 40
  · simp only [decide_eq_true hl, cond_true]
  simp only [decide_eq_false hl, cond_false]
  refine loop_up (len := x.2.2.2.1.length) (fun n i (_ : Unit) => spec_l14Mails.l4 k _ _ n x i) (fun _ _ => True) (fun i _ => some ((firstF (mailP x.2.1) (x.2.2.2.1.drop i), ()), ())) ?_ ?_ k 0 () (Nat.zero_le _) trivial (by omega)
  · rintro n s -
    simp only [spec_l14Mails.l4, lt_dec_f, cond_false, List.drop_length, firstF]
  · rintro n i s hi -
    simp only [spec_l14Mails.l4, lt_dec hi, inBn hi, cond_true, share_eq, getD_get _ hi, spec_l1In.eq, Option.bind_some, drop_step hi, firstF, mailP]
    cases h : inR x.2.2.2.1[i].2.1 0 1
    · exact .inl (by simp only [Bool.not_false, cond_true]; rfl)
    · simp only [Bool.not_true, cond_false]
      have hr := inR_iff.1 h
      have hb : inB x.2.2.2.1[i].2.1 (x.2.1.length : Int) = true := by simp [inB]; omega
      rw [hb, cond_true, spec_l12Mail.eq]
      simp only [Option.bind_some]
      rw [getD_z (by omega)]
      cases h3 : mailF (x.2.1.getD x.2.2.2.1[i].2.1.toNat nodeZ).1 x.2.2.2.1[i] != 0
      · exact .inr ⟨(), by rw [cond_false, next_i (by omega)], trivial, by simp only [cond_false, mailP]⟩
      · exact .inl (by simp only [cond_true])
theorem spec_l14Fault.loopW {ρ : Type} (k : Nat) (c0 : Int × Unit → Option ρ) (c1 : TPair × Unit → Option ρ) (x : TPair) (hl : x.2.2.1.length ≤ 100) (hk : 200 < k) :
    spec_l14Fault.l10 k c0 c1 k x 0 = bif firstF wireFault x.2.2.1 != 0 then c0 (firstF wireFault x.2.2.1, ()) else c1 (x, ()) := by
  refine loop_up (len := x.2.2.1.length) (fun n i (_ : Unit) => spec_l14Fault.l10 k c0 c1 n x i) (fun _ _ => True) (fun i _ => bif firstF wireFault (x.2.2.1.drop i) != 0 then c0 (firstF wireFault (x.2.2.1.drop i), ()) else c1 (x, ())) ?_ ?_ k 0 () (Nat.zero_le _) trivial (by omega)
  · rintro n s -
    simp only [spec_l14Fault.l10, lt_dec_f, cond_false, List.drop_length, firstF, bne_self_eq_false]
  · rintro n i s hi -
    simp only [spec_l14Fault.l10, lt_dec hi, inBn hi, cond_true, share_eq, getD_get _ hi, spec_WireFault.eq, Option.bind_some, drop_step hi, firstF]
    cases h : wireFault x.2.2.1[i] != 0
    · exact .inr ⟨(), by rw [cond_false, next_i (by omega)], trivial, by simp only [cond_false]⟩
    · exact .inl (by simp only [cond_true, h])
theorem spec_l14Fault.loopS (k : Nat) (x : TPair) (hl : x.2.2.2.2.1.length ≤ 100) (hk : 200 < k) :
    spec_l14Fault.l21 k (fun e => some (e, ())) (fun _ => some (((0 : Int), ()), ())) k x 0 = some ((firstF entryFault x.2.2.2.2.1, ()), ()) := by
  refine loop_up (len := x.2.2.2.2.1.length) (fun n i (_ : Unit) => spec_l14Fault.l21 k _ _ n x i) (fun _ _ => True) (fun i _ => some ((firstF entryFault (x.2.2.2.2.1.drop i), ()), ())) ?_ ?_ k 0 () (Nat.zero_le _) trivial (by omega)
  · rintro n s -
    simp only [spec_l14Fault.l21, lt_dec_f, cond_false, List.drop_length, firstF]
  · rintro n i s hi -
    simp only [spec_l14Fault.l21, lt_dec hi, inBn hi, cond_true, share_eq, getD_get _ hi, spec_EntryFault.eq, Option.bind_some, drop_step hi, firstF]
    cases h : entryFault x.2.2.2.2.1[i] != 0
    · exact .inr ⟨(), by rw [cond_false, next_i (by omega)], trivial, by simp only [cond_false]⟩
    · exact .inl (by simp only [cond_true])
theorem bne_true {a b : Int} (h : (a != b) = false) : a = b := by simpa using h
theorem spec_l14Fault.eq (k : Nat) (x : TPair × Unit) (hk : 200 < k) : spec_l14Fault.F k x = some ((pairFault x.1, ()), ()) := by
  obtain ⟨x, _⟩ := x
  unfold spec_l14Fault.F pairFault
  rw [spec_SettingsFault.eq k _ (by omega)]
  simp only [Option.bind_some]
  cases h0 : settingsFault x.1 != 0
  case true => rfl
  cases h1 : (x.2.1.length : Int) != 2
  case true => rfl
  cases h2 : (x.2.2.1.length : Int) != 3
  case true => rfl
  have l2 : x.2.1.length = 2 := by have := bne_true h1; omega
  have l3 : x.2.2.1.length = 3 := by have := bne_true h2; omega
  simp only [cond_false]
  rw [spec_l14Nodes.eq k _ l2 hk]
  simp only [Option.bind_some]
  cases h3 : nodesF 0 x.2.1 != 0
  case true => rfl
  simp only [cond_false]
  rw [spec_l14Fault.loopW k _ _ x (by omega) hk]
  cases h4 : firstF wireFault x.2.2.1 != 0
  case true => rfl
  simp only [cond_false]
  rw [spec_l14Mails.eq k _ l2 hk]
  simp only [Option.bind_some]
  by_cases h5 : (x.2.2.2.1.length : Int) > 40
  · simp only [decide_eq_true h5, cond_true]; rfl
  simp only [decide_eq_false h5, cond_false]
  cases h6 : firstF (mailP x.2.1) x.2.2.2.1 != 0
  case true => rfl
  simp only [cond_false]
  by_cases h7 : (x.2.2.2.2.1.length : Int) > 100
  · simp only [decide_eq_true h7, cond_true]
  simp only [decide_eq_false h7, cond_false]
  rw [spec_l14Fault.loopS k x (by omega) hk]

/-! ### The program's -/
theorem impl_PairFault.loopN {ρ : Type} (k : Nat) (c0 : Int × Unit → Option ρ) (c1 : Int × Int × Int × Int × List TRule × List TRule × List TNode × List TWire × List TMail × List TEntry × Unit → Option ρ)
    (l : List TNode) (a b c d : Int) (r1 r2 : List TRule) (ns : List TNode) (ws : List TWire) (ms : List TMail) (se : List TEntry) (hl : l.length ≤ 100) (hk : 200 < k) :
    impl_PairFault.l7 k c0 c1 k l l.length 0 a b c d r1 r2 ns ws ms se = bif nodesF 0 l != 0 then c0 (nodesF 0 l, ()) else c1 (a, b, c, d, r1, r2, ns, ws, ms, se, ()) := by
  refine loop_up (len := l.length) (fun n i (_ : Unit) => impl_PairFault.l7 k c0 c1 n l l.length i a b c d r1 r2 ns ws ms se) (fun _ _ => True) (fun i _ => bif nodesF i (l.drop i) != 0 then c0 (nodesF i (l.drop i), ()) else c1 (a, b, c, d, r1, r2, ns, ws, ms, se, ())) ?_ ?_ k 0 () (Nat.zero_le _) trivial (by omega)
  · rintro n s -
    simp only [impl_PairFault.l7, lt_dec_f, cond_false, List.drop_length, nodesF, bne_self_eq_false]
  · rintro n i s hi -
    simp only [impl_PairFault.l7, lt_dec hi, inBn hi, cond_true, share_eq, getD_get _ hi]
    rw [impl_NodeFault.eq k _ hk]
    simp only [Option.bind_some, drop_step hi, nodesF]
    cases h : nodeFault l[i] != 0
    · simp only [cond_false]
      cases h3 : l[i].1 != (i : Int)
      · exact .inr ⟨(), by rw [cond_false, next_i (by omega)], trivial, by simp only [cond_false]; rfl⟩
      · exact .inl (by simp only [cond_true]; rfl)
    · exact .inl (by simp only [cond_true, h])
theorem impl_PairFault.loopW {ρ : Type} (k : Nat) (c0 : Int × Unit → Option ρ) (c1 : Int × Int × Int × Int × List TRule × List TRule × List TNode × List TWire × List TMail × List TEntry × Unit → Option ρ)
    (l : List TWire) (a b c d : Int) (r1 r2 : List TRule) (ns : List TNode) (ws : List TWire) (ms : List TMail) (se : List TEntry) (hl : l.length ≤ 100) (hk : 200 < k) :
    impl_PairFault.l16 k c0 c1 k l l.length 0 a b c d r1 r2 ns ws ms se = bif firstF wireFault l != 0 then c0 (firstF wireFault l, ()) else c1 (a, b, c, d, r1, r2, ns, ws, ms, se, ()) := by
  refine loop_up (len := l.length) (fun n i (_ : Unit) => impl_PairFault.l16 k c0 c1 n l l.length i a b c d r1 r2 ns ws ms se) (fun _ _ => True) (fun i _ => bif firstF wireFault (l.drop i) != 0 then c0 (firstF wireFault (l.drop i), ()) else c1 (a, b, c, d, r1, r2, ns, ws, ms, se, ())) ?_ ?_ k 0 () (Nat.zero_le _) trivial (by omega)
  · rintro n s -
    simp only [impl_PairFault.l16, lt_dec_f, cond_false, List.drop_length, firstF, bne_self_eq_false]
  · rintro n i s hi -
    simp only [impl_PairFault.l16, lt_dec hi, inBn hi, cond_true, share_eq, getD_get _ hi, impl_WireFault.eq, Option.bind_some, drop_step hi, firstF]
    cases h : wireFault l[i] != 0
    · exact .inr ⟨(), by rw [cond_false, next_i (by omega)], trivial, by simp only [cond_false]⟩
    · exact .inl (by simp only [cond_true, h])
theorem impl_PairFault.loopM {ρ : Type} (k : Nat) (c0 : Int × Unit → Option ρ) (c1 : Int × Int × Int × Int × List TRule × List TRule × List TNode × List TWire × List TMail × List TEntry × Unit → Option ρ)
    (l : List TMail) (a b c d : Int) (r1 r2 : List TRule) (ns : List TNode) (ws : List TWire) (ms : List TMail) (se : List TEntry) (h2 : ns.length = 2) (hn : nodesF 0 ns = 0) (hl : l.length ≤ 100) (hk : 200 < k) :
    impl_PairFault.l25 k c0 c1 k l l.length 0 a b c d r1 r2 ns ws ms se = bif firstF (mailP ns) l != 0 then c0 (firstF (mailP ns) l, ()) else c1 (a, b, c, d, r1, r2, ns, ws, ms, se, ()) := by
  refine loop_up (len := l.length) (fun n i (_ : Unit) => impl_PairFault.l25 k c0 c1 n l l.length i a b c d r1 r2 ns ws ms se) (fun _ _ => True) (fun i _ => bif firstF (mailP ns) (l.drop i) != 0 then c0 (firstF (mailP ns) (l.drop i), ()) else c1 (a, b, c, d, r1, r2, ns, ws, ms, se, ())) ?_ ?_ k 0 () (Nat.zero_le _) trivial (by omega)
  · rintro n s -
    simp only [impl_PairFault.l25, lt_dec_f, cond_false, List.drop_length, firstF, bne_self_eq_false]
  · rintro n i s hi -
    simp only [impl_PairFault.l25, lt_dec hi, inBn hi, cond_true, share_eq, getD_get _ hi, impl_isNode.eq, Option.bind_some, drop_step hi, firstF, mailP]
    cases h : inR l[i].2.1 0 1
    · exact .inl (by simp only [Bool.not_false, cond_true]; rfl)
    · simp only [Bool.not_true, cond_false]
      have hr := inR_iff.1 h
      have hb : inB l[i].2.1 (ns.length : Int) = true := by simp [inB]; omega
      have hj : l[i].2.1.toNat < ns.length := by omega
      rw [hb, cond_true, impl_MailFault.eq k _ hk]
      simp only [Option.bind_some]
      rw [getD_z hj]
      have h0 : nodeFault (ns.getD l[i].2.1.toNat nodeZ) = 0 := nodesF_zero ns 0 hn _ (by simp [List.getD, hj])
      rw [h0, bne_self_eq_false, cond_false]
      cases h3 : mailF (ns.getD l[i].2.1.toNat nodeZ).1 l[i] != 0
      · exact .inr ⟨(), by rw [cond_false, next_i (by omega)], trivial, by simp only [cond_false, mailP]⟩
      · exact .inl (by simp only [cond_true, h3])
theorem impl_PairFault.loopS (k : Nat) (l : List TEntry) (hl : l.length ≤ 100) (hk : 200 < k) :
    impl_PairFault.l36 k (fun e => some (e, ())) (fun _ => some (((0 : Int), ()), ())) k l l.length 0 = some ((firstF entryFault l, ()), ()) := by
  refine loop_up (len := l.length) (fun n i (_ : Unit) => impl_PairFault.l36 k _ _ n l l.length i) (fun _ _ => True) (fun i _ => some ((firstF entryFault (l.drop i), ()), ())) ?_ ?_ k 0 () (Nat.zero_le _) trivial (by omega)
  · rintro n s -
    simp only [impl_PairFault.l36, lt_dec_f, cond_false, List.drop_length, firstF]
  · rintro n i s hi -
    simp only [impl_PairFault.l36, lt_dec hi, inBn hi, cond_true, share_eq, getD_get _ hi, impl_EntryFault.eq, Option.bind_some, drop_step hi, firstF]
    cases h : entryFault l[i] != 0
    · exact .inr ⟨(), by rw [cond_false, next_i (by omega)], trivial, by simp only [cond_false]⟩
    · exact .inl (by simp only [cond_true])
theorem impl_PairFault.eq (k : Nat) (x : TPair × Unit) (hk : 200 < k) : impl_PairFault.F k x = some ((pairFault x.1, ()), ()) := by
  obtain ⟨x, _⟩ := x
  unfold impl_PairFault.F pairFault
  rw [impl_SettingsFault.eq k _ (by omega)]
  simp only [Option.bind_some]
  cases h0 : settingsFault x.1 != 0
  case true => rfl
  cases h1 : (x.2.1.length : Int) != 2
  case true => rfl
  cases h2 : (x.2.2.1.length : Int) != 3
  case true => rfl
  have l2 : x.2.1.length = 2 := by have := bne_true h1; omega
  have l3 : x.2.2.1.length = 3 := by have := bne_true h2; omega
  simp only [cond_false]
  rw [impl_PairFault.loopN k _ _ _ _ _ _ _ _ _ _ _ _ _ (by omega) hk]
  cases h3 : nodesF 0 x.2.1 != 0
  case true => rfl
  have n0 := bne_true h3
  simp only [cond_false]
  rw [impl_PairFault.loopW k _ _ _ _ _ _ _ _ _ _ _ _ _ (by omega) hk]
  cases h4 : firstF wireFault x.2.2.1 != 0
  case true => rfl
  simp only [cond_false]
  by_cases h5 : (x.2.2.2.1.length : Int) > 40
  · simp only [decide_eq_true h5, cond_true]
  simp only [decide_eq_false h5, cond_false]
  rw [impl_PairFault.loopM k _ _ _ _ _ _ _ _ _ _ _ _ _ l2 n0 (by omega) hk]
  cases h6 : firstF (mailP x.2.1) x.2.2.2.1 != 0
  case true => rfl
  simp only [cond_false]
  by_cases h7 : (x.2.2.2.2.1.length : Int) > 100
  · simp only [decide_eq_true h7, cond_true]
  simp only [decide_eq_false h7, cond_false]
  rw [impl_PairFault.loopS k _ (by omega) hk]
end Go.Proofs.YtliaeahjdenlfaaGreat
/- OneActive: at most one node of a pair is heard, in plain words. -/
set_option linter.unusedVariables false
set_option linter.unusedSimpArgs false
namespace Go.Proofs.YtliaeahjdenlfaaGreat
open Go Go.Dn
/-- Where the first is of which f says true; -1: nowhere. -/
def findI {α : Type} (f : α → Bool) : List α → Int → Int
  | [], _ => -1
  | x :: r, i => bif f x then i else findI f r (i + 1)
theorem findI_ge {α : Type} (f : α → Bool) : ∀ (l : List α) (i : Int), 0 ≤ i → decide (findI f l i ≥ 0) = l.any f
  | [], i, _ => rfl
  | x :: r, i, h => by
    cases hx : f x with
    | true => simp [findI, hx, h]
    | false =>
      have := findI_ge f r (i + 1) (by omega)
      simp only [findI, hx, cond_false, List.any_cons, Bool.false_or]
      exact this
def oneF (ws : List TWire) : List TNode → Int → Bool
  | [], c => decide (c ≤ 1)
  | n :: r, c => bif n.2.2.1 != 1 then oneF ws r c else bif ws.any (fun w => decide (n.2.2.2.1 > w.1)) then false else
      oneF ws r (bif ws.any (fun w => n.2.2.2.1 != w.1) then c else c + 1)
theorem fault_lens {x : TPair} (h : (pairFault x == 0) = true) : x.2.1.length = 2 ∧ x.2.2.1.length = 3 ∧ nodesF 0 x.2.1 = 0 ∧ x.2.2.2.2.1.length ≤ 100 ∧ firstF entryFault x.2.2.2.2.1 = 0 := by
  have h : pairFault x = 0 := by simpa using h
  unfold pairFault at h
  cases h0 : settingsFault x.1 != 0
  case true => rw [h0, cond_true] at h; rw [h] at h0; cases h0
  rw [h0, cond_false] at h
  cases h1 : (x.2.1.length : Int) != 2
  case true => rw [h1] at h; cases h
  rw [h1, cond_false] at h
  cases h2 : (x.2.2.1.length : Int) != 3
  case true => rw [h2] at h; cases h
  rw [h2, cond_false] at h
  cases h3 : nodesF 0 x.2.1 != 0
  case true => rw [h3, cond_true] at h; rw [h] at h3; cases h3
  rw [h3, cond_false] at h
  cases h4 : firstF wireFault x.2.2.1 != 0
  case true => rw [h4, cond_true] at h; rw [h] at h4; cases h4
  rw [h4, cond_false] at h
  by_cases h5 : (x.2.2.2.1.length : Int) > 40
  · rw [decide_eq_true h5] at h; cases h
  rw [decide_eq_false h5, cond_false] at h
  cases h6 : firstF (mailP x.2.1) x.2.2.2.1 != 0
  case true => rw [h6, cond_true] at h; rw [h] at h6; cases h6
  rw [h6, cond_false] at h
  by_cases h7 : (x.2.2.2.2.1.length : Int) > 100
  · rw [decide_eq_true h7] at h; cases h
  rw [decide_eq_false h7, cond_false] at h
  have l2 := bne_true h1
  have l3 := bne_true h2
  exact ⟨by omega, by omega, bne_true h3, by omega, h⟩
def oneActive (x : TPair) : Bool := bif pairFault x == 0 then oneF x.2.2.1 x.2.1 0 else false
end Go.Proofs.YtliaeahjdenlfaaGreat
/- LogsMatch: the logs of a pair match, in plain words. -/
set_option linter.unusedVariables false
set_option linter.unusedSimpArgs false
namespace Go.Proofs.YtliaeahjdenlfaaGreat
open Go Go.Dn
def sameE (a b : TEntry) : Bool :=
  bif a.1 == b.1 then (bif a.2.1.1 == b.2.1.1 then (bif a.2.1.2.1 == b.2.1.2.1 then strEq (strOf a.2.1.2.2.1) (strOf b.2.1.2.2.1) else false) else false) else false
theorem impl_sameEntry.eq (k : Nat) (x : TEntry × TEntry × Unit) : impl_sameEntry.F k x = some ((sameE x.1 x.2.1, ()), ()) := by
  unfold impl_sameEntry.F sameE bytes_Equal.F
  simp only [Option.bind_some, cond_some, cond_pair, cond_same]
theorem spec_l15SameEntry.eq (k : Nat) (x : TEntry × TEntry × Unit) : spec_l15SameEntry.F k x = some ((sameE x.1 x.2.1, ()), ()) := by
  unfold spec_l15SameEntry.F sameE
  simp only [Option.bind_some, cond_some, cond_pair, cond_same]
theorem sameE_epoch {a b : TEntry} (h : sameE a b = true) : a.1 = b.1 := by
  unfold sameE at h
  cases e : a.1 == b.1 with
  | true => simpa using e
  | false => rw [e] at h; cases h
/-- Are two lists of one length the same, from the front? -/
def sameL : List TEntry → List TEntry → Bool
  | [], _ => true
  | _, [] => true
  | x :: a, y :: b => bif sameE x y then sameL a b else false
theorem slices_EqualFunc_impl_Entry_impl_Entry_impl_Entry_impl_Entry.eq (k : Nat) (a b : List TEntry) (f : (TEntry × TEntry × Unit) → Option Bool) (hf : ∀ x, f x = some (sameE x.1 x.2.1)) (hl : a.length = b.length) (hb : a.length ≤ 4294967296) (hk : a.length < k) :
    slices_EqualFunc_impl_Entry_impl_Entry_impl_Entry_impl_Entry.F k (a, b, f, ()) = some ((sameL a b, ()), ()) := by
  unfold slices_EqualFunc_impl_Entry_impl_Entry_impl_Entry_impl_Entry.F
  simp only
  rw [show ((a.length : Int) != (b.length : Int)) = false by simp [hl], cond_false]
  refine loop_up (len := a.length) (fun n i (_ : Unit) => slices_EqualFunc_impl_Entry_impl_Entry_impl_Entry_impl_Entry.l4 k _ _ n b f a a.length i) (fun _ _ => True) (fun i _ => some ((sameL (a.drop i) (b.drop i), ()), ())) ?_ ?_ k 0 () (Nat.zero_le _) trivial (by omega)
  · rintro n s -
    simp only [slices_EqualFunc_impl_Entry_impl_Entry_impl_Entry_impl_Entry.l4, lt_dec_f, cond_false, List.drop_length, sameL]
  · rintro n i s hi -
    have hi2 : i < b.length := by omega
    simp only [slices_EqualFunc_impl_Entry_impl_Entry_impl_Entry_impl_Entry.l4, lt_dec hi, inBn hi, inBn hi2, cond_true, share_eq, getD_get _ hi, getD_get _ hi2, drop_step hi, drop_step hi2, sameL, hf, Option.bind_some]
    cases h : sameE a[i] b[i]
    · exact .inl (by simp only [Bool.not_false, cond_true, cond_false])
    · exact .inr ⟨(), by rw [Bool.not_true, cond_false, next_i (by omega)], trivial, by simp only [cond_true]⟩
theorem impl_sameEntries.eq (k : Nat) (a b : List TEntry) (hl : a.length = b.length) (hb : a.length ≤ 4294967296) (hk : a.length < k) : impl_sameEntries.F k (a, b, ()) = some ((sameL a b, ()), ()) := by
  unfold impl_sameEntries.F
  simp only
  rw [slices_EqualFunc_impl_Entry_impl_Entry_impl_Entry_impl_Entry.eq k a b _ (fun x => by simp only [impl_sameEntry.eq, Option.bind_some]) hl hb hk]
  rfl
/-- Behind what is common: is there no place of one epoch? -/
def apartE : List TEntry → List TEntry → Bool
  | [], _ => true
  | _, [] => true
  | x :: a, y :: b => bif x.1 == y.1 then false else apartE a b
def matchE : List TEntry → List TEntry → Bool
  | [], _ => true
  | _, [] => true
  | x :: a, y :: b => bif sameE x y then matchE a b else apartE (x :: a) (y :: b)
/-- How many entries two logs have in common. -/
def commonN : List TEntry → List TEntry → Nat
  | [], _ => 0
  | _, [] => 0
  | x :: a, y :: b => bif sameE x y then commonN a b + 1 else 0
theorem commonN_le : ∀ a b : List TEntry, commonN a b ≤ a.length ∧ commonN a b ≤ b.length
  | [], b => by simp [commonN]
  | x :: a, [] => by simp [commonN]
  | x :: a, y :: b => by
    have := commonN_le a b
    simp only [commonN, List.length_cons]
    cases sameE x y <;> simp <;> omega
theorem match_common : ∀ a b : List TEntry, matchE a b = apartE (a.drop (commonN a b)) (b.drop (commonN a b))
  | [], b => by simp [matchE, commonN, apartE]
  | x :: a, [] => by simp [matchE, commonN, apartE]
  | x :: a, y :: b => by
    simp only [matchE, commonN]
    cases h : sameE x y
    · simp
    · simp only [cond_true, List.drop_succ_cons]; exact match_common a b
theorem apartE_nil (a : List TEntry) : apartE a [] = true := by cases a <;> rfl
theorem commonN_nil (a : List TEntry) : commonN a [] = 0 := by cases a <;> rfl
theorem spec_l15Common.eq (k : Nat) (a b : List TEntry) (hb : a.length ≤ 4294967296) (hk : a.length < k) : spec_l15Common.F k (a, b, ()) = some (((commonN a b : Int), ()), ()) := by
  unfold spec_l15Common.F
  refine (loop_up (len := a.length) (fun n i (_ : Unit) => spec_l15Common.l2 k _ n a b i) (fun _ _ => True) (fun i _ => some ((((i + commonN (a.drop i) (b.drop i) : Nat) : Int), ()), ())) ?_ ?_ k 0 () (Nat.zero_le _) trivial (by omega)).trans (by simp)
  · rintro n s -
    simp only [spec_l15Common.l2, lt_dec_f, cond_false, List.drop_length, commonN, Nat.add_zero]
  · rintro n i s hi -
    simp only [spec_l15Common.l2, lt_dec hi, cond_true]
    by_cases hi2 : i < b.length
    · simp only [lt_dec hi2, inBn hi, inBn hi2, cond_true, share_eq, getD_get _ hi, getD_get _ hi2, drop_step hi, drop_step hi2, commonN, spec_l15SameEntry.eq, Option.bind_some]
      cases h : sameE a[i] b[i]
      · exact .inl (by simp only [cond_false, Nat.add_zero])
      · exact .inr ⟨(), by rw [cond_true, next_i (by omega)], trivial, by simp only [cond_true]; congr 4; omega⟩
    · refine .inl ?_
      rw [ge_dec hi2, cond_false, List.drop_eq_nil_of_le (by omega : b.length ≤ i), commonN_nil]
      rfl
def nodeZz : TNode := (0, false, 0, 0, [], 0, 0, 0, 0, ())
theorem sameL_step : ∀ (a b : List TEntry) (i : Nat) (h1 : i < a.length) (h2 : i < b.length), sameL (a.take (i + 1)) (b.take (i + 1)) = bif sameL (a.take i) (b.take i) then sameE a[i] b[i] else false
  | x :: a, y :: b, 0, _, _ => by
    simp only [List.take_succ_cons, List.take_zero, sameL, cond_true, List.getElem_cons_zero]
    cases sameE x y <;> rfl
  | x :: a, y :: b, i + 1, h1, h2 => by
    simp only [List.take_succ_cons, List.getElem_cons_succ]
    have := sameL_step a b i (by simpa using h1) (by simpa using h2)
    show (bif sameE x y then sameL (a.take (i + 1)) (b.take (i + 1)) else false) = bif (bif sameE x y then sameL (a.take i) (b.take i) else false) then _ else false
    rw [this]
    cases sameE x y <;> rfl
theorem cut0 {α : Type} (l : List α) (i : Nat) : cutL l 0 ((i : Int) - 0) = l.take i := by
  simp [cutL]
theorem matchE_nil (a : List TEntry) : matchE a [] = true := by cases a <;> rfl
def part (a b : List TEntry) (i : Nat) : Bool := bif sameL (a.take i) (b.take i) then matchE (a.drop i) (b.drop i) else apartE (a.drop i) (b.drop i)
theorem part_end (a b : List TEntry) (i : Nat) (h : i = a.length ∨ i = b.length) : part a b i = true := by
  unfold part
  rcases h with rfl | rfl
  · rw [List.drop_length]; cases sameL (a.take a.length) (b.take a.length) <;> simp [matchE, apartE]
  · rw [List.drop_length, matchE_nil, apartE_nil]; cases sameL (a.take b.length) (b.take b.length) <;> rfl
def logsMatch (x : TPair) : Bool := bif pairFault x == 0 then matchE (x.2.1.getD 0 nodeZz).2.2.2.2.1 (x.2.1.getD 1 nodeZz).2.2.2.2.1 else false
theorem logs_len {x : TPair} (hb : kPair.big x ≤ 1048576) : ∀ n ∈ x.2.1, n.2.2.2.2.1.length ≤ 4294967296 := fun n hn => by
  have hp : kPair.big x = kSettings.big x.1 + (K.big (.sl kNode) x.2.1 + (K.big (.sl kWire) x.2.2.1 + (K.big (.sl kMail) x.2.2.2.1 + (K.big (.sl kEntry) x.2.2.2.2.1 + 0)))) := rfl
  have h1 : kNode.big n + 1 ≤ K.big (.sl kNode) x.2.1 := big_mem hn
  have h2 : kNode.big n = 0 + (0 + (0 + (0 + (K.big (.sl kEntry) n.2.2.2.2.1 + (0 + (0 + (0 + (0 + 0)))))))) := rfl
  have h3 : n.2.2.2.2.1.length ≤ K.big (.sl kEntry) n.2.2.2.2.1 := big_len (e := kEntry) _
  omega
end Go.Proofs.YtliaeahjdenlfaaGreat
/- SealedRight: both nodes have for sure what is sealed, in plain words. -/
set_option linter.unusedVariables false
set_option linter.unusedSimpArgs false
namespace Go.Proofs.YtliaeahjdenlfaaGreat
open Go Go.Dn
/-- Has a node for sure what is sealed? -/
def hasSealed (se : List TEntry) (n : TNode) : Bool := bif decide (n.2.2.2.2.2.1 < (se.length : Int)) then false else sameL (n.2.2.2.2.1.take se.length) se
theorem common_same : ∀ (a b : List TEntry), b.length ≤ a.length → ((commonN a b : Int) == (b.length : Int)) = sameL (a.take b.length) b
  | a, [], _ => by
    rw [commonN_nil]
    simp [sameL]
  | [], y :: b, h => by simp at h
  | x :: a, y :: b, h => by
    have ih := common_same a b (by simpa using h)
    simp only [commonN, List.length_cons, List.take_succ_cons, sameL]
    cases sameE x y
    · simp only [cond_false]
      simp
      omega
    · simp only [cond_true]
      rw [← ih]
      rw [Bool.eq_iff_iff, beq_iff_eq, beq_iff_eq]
      omega
theorem sure_ok {n : TNode} (h : nodeFault n = 0) : 0 ≤ n.2.2.2.2.2.1 ∧ n.2.2.2.2.2.1 ≤ n.2.2.2.2.1.length ∧ n.2.2.2.2.1.length ≤ 100 := by
  unfold nodeFault at h
  cases h1 : inR n.1 0 1 <;> rw [h1] at h <;> simp only [Bool.not_true, Bool.not_false, cond_true, cond_false] at h
  · exact absurd h (by decide)
  cases h2 : inR n.2.2.1 0 1 <;> rw [h2] at h <;> simp only [Bool.not_true, Bool.not_false, cond_true, cond_false] at h
  · exact absurd h (by decide)
  cases h3 : inR n.2.2.2.1 0 1000 <;> rw [h3] at h <;> simp only [Bool.not_true, Bool.not_false, cond_true, cond_false] at h
  · exact absurd h (by decide)
  by_cases h4 : logFault n = 0
  rotate_left
  · rw [bne_zero h4, cond_true] at h; exact absurd h h4
  rw [h4] at h
  simp only [bne_self_eq_false, cond_false] at h
  unfold logFault at h4
  unfold nodeTail at h
  by_cases h5 : (n.2.2.2.2.1.length : Int) > 100
  · rw [decide_eq_true h5, cond_true] at h4; exact absurd h4 (by decide)
  cases h6 : inR n.2.2.2.2.2.1 0 n.2.2.2.2.1.length <;> rw [h6] at h <;> simp only [Bool.not_true, Bool.not_false, cond_true, cond_false] at h
  · exact absurd h (by decide)
  have := inR_iff.1 h6
  omega
theorem slices_IndexFunc_impl_Node_impl_Node.eq (k : Nat) (x : List TNode) (g : (TNode × Unit) → Option Bool) (f : TNode → Bool) (hf : ∀ n ∈ x, g (n, ()) = some (f n)) (hb : x.length ≤ 1000) (hk : 1000 < k) :
    slices_IndexFunc_impl_Node_impl_Node.F k (x, g, ()) = some ((findI f x 0, ()), ()) := by
  unfold slices_IndexFunc_impl_Node_impl_Node.F
  refine loop_up (len := x.length) (fun n i (_ : Unit) => slices_IndexFunc_impl_Node_impl_Node.l2 k _ _ n x g x.length i) (fun _ _ => True) (fun i _ => some ((findI f (x.drop i) i, ()), ())) ?_ ?_ k 0 () (Nat.zero_le _) trivial (by omega)
  · rintro n s -
    simp only [slices_IndexFunc_impl_Node_impl_Node.l2, lt_dec_f, cond_false, List.drop_length, findI]
  · rintro n i s hi -
    simp only [slices_IndexFunc_impl_Node_impl_Node.l2, lt_dec hi, inBn hi, cond_true, share_eq, getD_get _ hi]
    rw [hf _ (List.getElem_mem hi)]
    simp only [Option.bind_some, drop_step hi, findI]
    cases h : f x[i]
    · exact .inr ⟨(), by rw [cond_false, next_i (by omega)], trivial, by simp only [cond_false]; rfl⟩
    · exact .inl (by simp only [cond_true])
theorem slices_ContainsFunc_impl_Node_impl_Node.eq (k : Nat) (x : List TNode) (g : (TNode × Unit) → Option Bool) (f : TNode → Bool) (hf : ∀ n ∈ x, g (n, ()) = some (f n)) (hb : x.length ≤ 1000) (hk : 1000 < k) :
    slices_ContainsFunc_impl_Node_impl_Node.F k (x, g, ()) = some ((x.any f, ()), ()) := by
  unfold slices_ContainsFunc_impl_Node_impl_Node.F
  rw [slices_IndexFunc_impl_Node_impl_Node.eq k x g f hf hb hk]
  simp only [Option.bind_some, findI_ge f x 0 (Int.le_refl _)]
theorem impl_Pair_sealedRight_1.eq (k : Nat) (n : TNode) (p : TPair) (hn : nodeFault n = 0) (hk : 1000 < k) : impl_Pair_sealedRight_1.F k (n, (p.2.2.2.2.1.length : Int), p, ()) = some ((!hasSealed p.2.2.2.2.1 n, ()), ()) := by
  obtain ⟨h1, h2, h3⟩ := sure_ok hn
  unfold impl_Pair_sealedRight_1.F hasSealed
  by_cases h : n.2.2.2.2.2.1 < (p.2.2.2.2.1.length : Int)
  · simp only [decide_eq_true h, cond_true, Bool.not_false]
  · have e0 : decide ((0 : Int) ≤ (p.2.2.2.2.1.length : Int)) = true := decide_eq_true (by omega)
    have e1 : decide ((p.2.2.2.2.1.length : Int) ≤ (n.2.2.2.2.1.length : Int)) = true := decide_eq_true (by omega)
    simp only [decide_eq_false h, cond_false, e0, e1, cond_true, share_eq]
    rw [cut0]
    have hs := impl_sameEntries.eq k (n.2.2.2.2.1.take p.2.2.2.2.1.length) p.2.2.2.2.1 (by rw [List.length_take]; omega) (by rw [List.length_take]; omega) (by rw [List.length_take]; omega)
    have hs' : impl_sameEntries.F k (n.2.2.2.2.1.take p.2.2.2.2.1.length, p.2.2.2.2) = some ((sameL (n.2.2.2.2.1.take p.2.2.2.2.1.length) p.2.2.2.2.1, ()), ()) := hs
    rw [hs']
    rfl
theorem any_not {α : Type} (f : α → Bool) : ∀ l : List α, (!l.any fun x => !f x) = l.all f
  | [] => rfl
  | x :: l => by
    have := any_not f l
    simp only [List.any_cons, List.all_cons]
    rw [← this]
    cases f x <;> simp
theorem impl_Pair_sealedRight.eq (k : Nat) (x : TPair × Unit) (h2 : x.1.2.1.length = 2) (hn : ∀ n ∈ x.1.2.1, nodeFault n = 0) (hk : 1000 < k) : impl_Pair_sealedRight.F k x = some ((x.1.2.1.all (hasSealed x.1.2.2.2.2.1), ()), ()) := by
  unfold impl_Pair_sealedRight.F
  have hs : impl_size_impl_Entry.F k x.1.2.2.2.2 = some (((x.1.2.2.2.2.1.length : Int), ()), ()) := rfl
  rw [hs]
  simp only [Option.bind_some]
  rw [slices_ContainsFunc_impl_Node_impl_Node.eq k x.1.2.1 _ (fun n => !hasSealed x.1.2.2.2.2.1 n) (fun n hm => by
    have := impl_Pair_sealedRight_1.eq k n x.1 (hn n hm) hk
    have h' : impl_Pair_sealedRight_1.F k (n, (x.1.2.2.2.2.1.length : Int), x) = some ((!hasSealed x.1.2.2.2.2.1 n, ()), ()) := this
    simp only [h', Option.bind_some]) (by omega) hk]
  simp only [Option.bind_some]
  rw [any_not]
theorem spec_l15Sealed.eq (k : Nat) (x : TPair × Unit) (h2 : x.1.2.1.length = 2) (hn : ∀ n ∈ x.1.2.1, nodeFault n = 0) (hk : 1000 < k) : spec_l15Sealed.F k x = some ((x.1.2.1.all (hasSealed x.1.2.2.2.2.1), ()), ()) := by
  obtain ⟨x, _⟩ := x
  simp only at h2 hn
  unfold spec_l15Sealed.F
  have hl : (2 : Int) = (x.2.1.length : Int) := by omega
  refine loop_up (len := x.2.1.length) (fun n i (_ : Unit) => spec_l15Sealed.l2 k _ _ n x i) (fun _ _ => True) (fun i _ => some (((x.2.1.drop i).all (hasSealed x.2.2.2.2.1), ()), ())) ?_ ?_ k 0 () (Nat.zero_le _) trivial (by omega)
  · rintro n s -
    simp only [spec_l15Sealed.l2]
    rw [decide_eq_false (by omega), cond_false, List.drop_length]
    rfl
  · rintro n i s hi -
    obtain ⟨h1, h4, h3⟩ := sure_ok (hn _ (List.getElem_mem hi))
    simp only [spec_l15Sealed.l2]
    rw [decide_eq_true (by omega : (i : Int) < 2), cond_true, inBn hi, cond_true, getD_get _ hi]
    simp only [share_eq, drop_step hi, List.all_cons]
    unfold hasSealed
    by_cases h : x.2.1[i].2.2.2.2.2.1 < (x.2.2.2.2.1.length : Int)
    · exact .inl (by simp only [decide_eq_true h, cond_true, Bool.false_and])
    · simp only [decide_eq_false h, cond_false]
      have hc := spec_l15Common.eq k x.2.1[i].2.2.2.2.1 x.2.2.2.2.1 (by omega) (by omega)
      have hc' : spec_l15Common.F k (x.2.1[i].2.2.2.2.1, x.2.2.2.2) = some (((commonN x.2.1[i].2.2.2.2.1 x.2.2.2.2.1 : Int), ()), ()) := hc
      rw [hc']
      simp only [Option.bind_some]
      have hs := common_same x.2.1[i].2.2.2.2.1 x.2.2.2.2.1 (by omega)
      have hne : ((commonN x.2.1[i].2.2.2.2.1 x.2.2.2.2.1 : Int) != (x.2.2.2.2.1.length : Int)) = !sameL (x.2.1[i].2.2.2.2.1.take x.2.2.2.2.1.length) x.2.2.2.2.1 := by rw [← hs]; rfl
      rw [hne]
      cases sameL (x.2.1[i].2.2.2.2.1.take x.2.2.2.2.1.length) x.2.2.2.2.1
      · exact .inl (by simp only [Bool.not_false, cond_true, Bool.false_and])
      · exact .inr ⟨(), by simp only [Bool.not_true, cond_false]; rw [next_i (by omega)], trivial, by simp only [Bool.true_and]⟩
theorem nodes_ok {x : TPair} (h : pairFault x = 0) : x.2.1.length = 2 ∧ ∀ n ∈ x.2.1, nodeFault n = 0 := by
  have g := fault_lens (x := x) (by rw [h]; rfl)
  exact ⟨g.1, nodesF_zero _ _ g.2.2.1⟩
def sealedRight (x : TPair) : Bool := bif pairFault x == 0 then x.2.1.all (hasSealed x.2.2.2.2.1) else false
theorem impl_SealedRight.eq (k : Nat) (x : TPair × Unit) (hk : 1000 < k) : impl_SealedRight.F k x = some ((sealedRight x.1, ()), ()) := by
  unfold impl_SealedRight.F sealedRight
  rw [impl_PairFault.eq k x (by omega)]
  simp only [Option.bind_some]
  cases h : pairFault x.1 == 0
  · rfl
  · have g := nodes_ok (show pairFault x.1 = 0 by simpa using h)
    rw [impl_Pair_sealedRight.eq k x g.1 g.2 hk]; rfl
theorem spec_SealedRight.eq (k : Nat) (x : TPair × Unit) (hk : 1000 < k) : spec_SealedRight.F k x = some ((sealedRight x.1, ()), ()) := by
  unfold spec_SealedRight.F sealedRight
  rw [spec_l14Fault.eq k x (by omega)]
  simp only [Option.bind_some]
  cases h : pairFault x.1 == 0
  · rfl
  · have g := nodes_ok (show pairFault x.1 = 0 by simpa using h)
    rw [spec_l15Sealed.eq k x g.1 g.2 hk]; rfl
end Go.Proofs.YtliaeahjdenlfaaGreat
/- SealedRight: the program's and the reference's answers are one, in plain words. -/
set_option linter.unusedVariables false
set_option linter.unusedSimpArgs false
namespace Go.Proofs.YtliaeahjdenlfaaGreat
open Go Go.Dn
theorem FnExactSealedRightPure (x : TPair) (hw : kPair.wf x) (hb : kPair.big x ≤ 1048576) : ∃ k, laws_FnExactSealedRight.F k (x, ()) = some ((true, ()), ()) := by
  refine ⟨8589934592, ?_⟩
  unfold laws_FnExactSealedRight.F
  obtain ⟨c, h1, h2, h3⟩ := laws_szPair.tot 8589934592 (x, 1048576, ()) (by simp only; omega) (by simp only; omega) (by simp only; omega) (by simp only; omega)
  simp only [h1, Option.bind_some]
  by_cases hc : c < 0
  · rw [decide_eq_true hc]; rfl
  rw [decide_eq_false hc, cond_false, laws_toPair.eq _ _ (by simp only; omega) (by simp only; omega)]
  simp only [Option.bind_some]
  rw [spec_SealedRight.eq _ _ (by omega), impl_SealedRight.eq _ _ (by omega)]
  simp only [Option.bind_some, BEq.rfl, Bool.not_true, cond_false]
  rw [laws_eqPair.refl _ _ rfl (by simp only; omega) (by simp only; omega)]
  rfl
end Go.Proofs.YtliaeahjdenlfaaGreat
/- FnExactSealedRight: for every input of the second form's bound the law returns true and its arguments read as before. -/
namespace Go.Proofs.YtliaeahjdenlfaaGreat.fnExactSealedRight
open Go.ChangeShapes Go.WideShapes Go.ChangeAt Go.RowKit Go.Dn
set_option linter.unusedVariables false
set_option maxRecDepth 100000
theorem own : ownKnob Tryz.prog.godebug = none := by kernel_rfl
theorem laidOut : laidOutB Tryz.prog = true := by kernel_rfl
theorem bulkOk (H : Type) : BulkOk (H := H) Rows.uptoBulk Rows.uptoBulkAll := by
  refine ⟨fun _ _ => ?_, fun _ => ?_, fun _ => ?_, ?_, fun _ _ => ?_, fun _ => ?_, ?_, fun _ _ => ?_⟩ <;> simp [Rows.uptoBulk, Rows.uptoBulkAll]
theorem contract (H : Type) (enc : TypeId × Value → H) (W : World) (base : Nat) (args : Array Value) (ds gs : List (DataW H)) (before : List MemPlace)
    (hval0 : ∀ (j : Nat) t v, Tryz.f5.params[j]? = some t → args[j]? = some v → Value.okWide Tryz.prog W .any base t v)
    (hW : DataW.Whole enc Tryz.prog Tryz.f5.params.toList Rows.fnExactSealedRightSpec.vars false W args.toList ds gs before) (hk : Rows.uptoSmall H (ds ++ gs) = true) :
    Calls Tryz.prog 5 args W fun e W' => ∃ v, e = .returned v ∧ Rows.fnExactSealedRightSpec.post enc Tryz.prog Tryz.f5 false true false false W args v W' := by
  have hval : ∀ (j : Nat) t v, Tryz.f5.params[j]? = some t → args[j]? = some v → Value.okWide Tryz.prog W .any base t v := hval0
  have hW' := hW
  obtain ⟨p, q, hA0, hV, rfl, hfz, hnd⟩ := hW
  have hA : DataW.TrodAll enc Tryz.prog W 0 (fun _ => true) true Tryz.f5.params.toList args.toList ds p := hA0
  rw [Tryz.params5] at hA hval
  obtain ⟨v0, vs0, d0, ds0, p0, q0, hargs, rfl, rfl, h0, r0⟩ := trodAll_cons hA
  obtain ⟨rfl, rfl, rfl⟩ := trodAll_nil r0
  obtain rfl : args = #[v0] := by cases args; simp_all
  obtain ⟨rfl, rfl⟩ := trodVars_none hV
  have hb : Rows.uptoBulkAll [d0] ≤ 1048576 := by simpa [Rows.uptoSmall] using hk
  obtain ⟨y0, us0, pk0, hh0, wf0, bg0⟩ := open_arg (bulkOk H) (κ := _) (t := 32) (tysOk0.1 32 _ rfl) (hval 0 32 v0 rfl rfl) h0
  have k0 := h0
  have lt0 : ∀ x ∈ p0, x.block < W.heap.size := by obtain ⟨m, hm⟩ := k0; exact DataW.trod_lt m _ _ _ hm
  have bi0 := (bulkOk H).le [d0] d0 (by simp)
  obtain ⟨k, hF⟩ := FnExactSealedRightPure y0 wf0 (by omega)
  have hcall := law_of (laws_FnExactSealedRight.ok k) hF (w := W) (vs := [v0]) ⟨v0, us0, _, rfl, pk0, hh0, rfl⟩
  refine hcall.mono fun e W' ⟨he, bel⟩ => ?_
  subst he
  exact ⟨_, rfl, _, _, _, [], _, [], hW', trodAll_mk1 (shut_bool Tryz.underlying4 _), (trodAll_cons_mk (Below.trod laidOut (by kernel_rfl) (of_decide_eq_true (by kernel_rfl)) k0 bel lt0) trodAll_mk0), rfl, bel.frame _, fun h => by cases h⟩
theorem lifted (os : Os) (started : os.Started) (H : Type) (enc : TypeId × Value → H) (F : Stop.Interp) :
    ReturnsInHanded {} Tryz.checked os 5 .any ((Rows.OpenSpec.upto Rows.fnExactSealedRightSpec).pre6 enc Tryz.prog Tryz.f5 Rows.fnExactSealedRightUptoRow.domain false) (((Rows.OpenSpec.upto Rows.fnExactSealedRightSpec).at F).post enc Tryz.prog Tryz.f5 false true false false) := by
  refine returnsInHanded_of_cond (C := Tryz.checked) (s := Rows.OpenSpec.upto Rows.fnExactSealedRightSpec) (k := Rows.uptoSmall) rfl own started (by kernel_rfl) Tryz.func5
    (OpenSpec.witness (enc := enc) (C := Tryz.checked) (s := Rows.OpenSpec.upto Rows.fnExactSealedRightSpec) (k := Rows.uptoSmall) rfl false ⟨#[], #[.agg #[.int .i64 0, .int .i64 0, .int .i64 0, .int .i64 0, .slice none 0 0, .slice none 0 0, .slice none 0 0, .slice none 0 0, .slice none 0 0, .slice none 0 0]], []⟩ 8 (by kernel_rfl) (by kernel_rfl) (by kernel_rfl)
      (x := ([.agg [.agg [.agg [.lit (.int .i64 0), .lit (.int .i64 0), .lit (.int .i64 0)], .lit (.int .i64 0), .nil, .nil], .nil, .nil, .nil, .nil]], [], [])) (by kernel_rfl) rfl (by kernel_rfl)) ?_
  intro W base args ds gs before hval hW _ hk _
  exact contract H enc W base args ds gs before hval hW hk
abbrev rc := Rows.fnExactSealedRightUptoRow
noncomputable abbrev rP := Tryz.pinned.checked.prog
noncomputable abbrev rf := Tryz.f5
noncomputable abbrev rs := (Rows.OpenSpec.upto Rows.fnExactSealedRightSpec).bare
theorem j0 : (rc.wf (OpenSpec.ofChange rs) && laidOutB rP && mapsRowed rP && rf.params.all (rP.readableRec ·) && namedTie rP rc.named rs.vars && (rc.stops == []) && (rP.stops == []) && (rc.knobs == []) && (rP.stopKnobs == [])) = true := by kernel_rfl
theorem j1 : ((rc.inPlace == rP.inPlace 5)) = true := by kernel_rfl
theorem j2 : ((rc.unfollowed == rP.unfollowed 5)) = true := by kernel_rfl
theorem j3 : ((rc.recurses == rP.recurses 5)) = true := by kernel_rfl
theorem j4 : ((rc.named == rP.varsNamed 5)) = true := by kernel_rfl
theorem j5 : ((rc.maps == (rf.params.toList ++ rs.plain.varTypes rP).any (rP.mapsRec ·))) = true := by kernel_rfl
theorem j6 : ((rc.ifaces == (rf.params.toList ++ rs.plain.varTypes rP).any (rP.ifacesRec ·))) = true := by kernel_rfl
theorem j7 : ((rc.mapsOut == rP.mapsAmong rf.resultTypes.toList)) = true := by kernel_rfl
theorem j8 : ((rc.loops == (rf.params.toList ++ rs.plain.varTypes rP).any (rP.loopsFrom ·))) = true := by kernel_rfl
theorem j9 : ((rc.wideKeys == (rf.params.toList ++ rs.plain.varTypes rP ++ rf.resultTypes.toList).any (rP.wideKeysFrom ·))) = true := by kernel_rfl
theorem j10 : (rs.vars.all (rP.varReadable ·)) = true := by kernel_rfl
theorem j11 : (rf.resultTypes.all (fun t => rP.readableRec t && decide (t < rP.types.size))) = true := by kernel_rfl
theorem j12 : ((rc.ifacesOut == rf.resultTypes.toList.any (rP.ifacesRec ·))) = true := by kernel_rfl
theorem j13 : ((rc.loopsOut == rf.resultTypes.toList.any (rP.loopsFrom ·))) = true := by kernel_rfl
theorem j14 : ((rc.plainKeys == rP.plainKeys)) = true := by kernel_rfl
theorem j15 : (rc.shortTexts.isNone) = true := by kernel_rfl
theorem j16 : (rP.stopsHeard) = true := by kernel_rfl
theorem j17 : (rP.mayEnter) = true := by kernel_rfl
theorem j18 : ((rc.lifted == rP.liftsFinal)) = true := by kernel_rfl
theorem j19 : ((rP.make == some rc.make)) = true := by kernel_rfl
theorem j20 : ((rc.kinds == (if rc.domain.isEmpty then [] else rf.params.toList.map fun t => match rP.underlying t with | some (.int k) => some k | _ => none))) = true := by kernel_rfl
theorem j21 : ((rc.pinned == rc.pinnedBy)) = true := by kernel_rfl
theorem j22 : ((rc.veiled == (rf.params.toList ++ rs.plain.varTypes rP ++ rf.resultTypes.toList).any (rP.veiledRec ·))) = true := by kernel_rfl
theorem j23 : (rc.veiledFits rP rf.params.toList (rf.params.toList ++ rs.plain.varTypes rP ++ rf.resultTypes.toList)) = true := by kernel_rfl
theorem and2 {a b : Bool} (h : a = true) (h2 : b = true) : (a && b) = true := by rw [h, h2]; rfl
theorem facts : joinedFacts rP 5 rf rs rc = true := (and2 (and2 (and2 (and2 (and2 (and2 (and2 (and2 (and2 (and2 (and2 (and2 (and2 (and2 (and2 (and2 (and2 (and2 (and2 (and2 (and2 (and2 (and2 j0 j1) j2) j3) j4) j5) j6) j7) j8) j9) j10) j11) j12) j13) j14) j15) j16) j17) j18) j19) j20) j21) j22) j23)
theorem named : Tryz.pinned.checked.prog.funcNamed Rows.fnExactSealedRightUptoRow.func = some 5 := by kernel_rfl
theorem inst : Tryz.f5.isInstance Tryz.pinned.checked.prog Rows.fnExactSealedRightUptoRow.origin Rows.fnExactSealedRightUptoRow.targs := of_decide_eq_true (by kernel_rfl)
theorem wrap : Tryz.f5.isWrapper Tryz.pinned.checked.prog Rows.fnExactSealedRightUptoRow.wrapper Rows.fnExactSealedRightUptoRow.mainSum := by unfold Func.isWrapper; first | (rw [if_pos (by decide +kernel)]; kernel_rfl) | (rw [if_neg (by decide +kernel)]; exact ⟨rfl, rfl⟩)
theorem over : Rows.fnExactSealedRightUptoRow.holds Tryz.pinned (Rows.OpenSpec.upto Rows.fnExactSealedRightSpec) :=
  OpenClaim.holds_of_cond 5 Tryz.f5 rfl rfl rfl rfl rfl rfl rfl ⟨rfl, rfl, rfl, rfl, rfl⟩ rfl rfl rfl rfl rfl named Tryz.func5 facts
    inst wrap
    (fun os started H enc _ F => lifted os started H enc F)
theorem proved : Rows.FnExactSealedRightUptoSaid := over
end Go.Proofs.YtliaeahjdenlfaaGreat.fnExactSealedRight
namespace Go.Proofs.YtliaeahjdenlfaaGreat
/-- The row, under a short name, for the claim. -/
theorem fnExactSealedRight_holds : Rows.FnExactSealedRightUptoSaid := fnExactSealedRight.proved
end Go.Proofs.YtliaeahjdenlfaaGreat
