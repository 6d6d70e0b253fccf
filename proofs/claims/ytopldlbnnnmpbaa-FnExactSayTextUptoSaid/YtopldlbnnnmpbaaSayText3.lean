/- FnExactSayText: for every message of bulk at most 1048576 the law returns true and its argument reads as before; no further condition. -/
import Derived.Test.YtopldlbnnnmpbaaRows
import Derived.WalkKit
import Derived.ProofKit
import Derived.OpenShut
import Derived.JoinedCond
import Derived.Carry
import Derived.ChangeOld
import Derived.Test.YtopldlbnnnmpbaaSayText0
import Derived.Test.YtopldlbnnnmpbaaSayText1
import Derived.Test.YtopldlbnnnmpbaaSayText2
set_option linter.unusedVariables false
set_option linter.unusedSimpArgs false
namespace Go.Proofs.Ytopldlbnnnmpbaa
open Go Go.Dn
theorem laws_eqPrefix.refl (k : Nat) (x : (Int × (Int × Unit)) × (Int × (Int × Unit)) × Unit) (he : x.2.1 = x.1) (hb : K.big kPrefix x.1 ≤ 4294967296) (hk : K.big kPrefix x.1 < k) : laws_eqPrefix.F k x = some ((true, ()), ()) := by
  obtain ⟨x, y, _⟩ := x
  simp only at he hb hk
  subst he
  unfold laws_eqPrefix.F
  (try simp only [bne_self_eq_false, cond_false])
  (try rfl)
theorem laws_eqPrefixS.refl (k : Nat) (x : List (Int × (Int × Unit)) × List (Int × (Int × Unit)) × Unit) (he : x.2.1 = x.1) (hb : K.big (.sl kPrefix) x.1 ≤ 4294967296) (hk : K.big (.sl kPrefix) x.1 < k) : laws_eqPrefixS.F k x = some ((true, ()), ()) := by
  obtain ⟨x, y, _⟩ := x
  simp only at he hb hk
  subst he
  have hl : y.length ≤ K.big (.sl kPrefix) y := big_len (e := kPrefix) y
  unfold laws_eqPrefixS.F
  simp only [bne_self_eq_false, cond_false]
  refine loop_inv (len := y.length) (fun n i (s : Unit) => laws_eqPrefixS.l4 k _ _ n y y i) (fun i s => True) _ ?_ ?_ k 0 () (Nat.zero_le _) trivial (by omega)
  · rintro n s -
    simp only [laws_eqPrefixS.l4, lt_dec_f, cond_false]
  · rintro n i s hi -
    have hm : K.big kPrefix y[i] + 1 ≤ K.big (.sl kPrefix) y := big_mem (e := kPrefix) (l := y) (List.getElem_mem hi)
    refine ⟨(), ?_, trivial⟩
    simp only [laws_eqPrefixS.l4, lt_dec hi, inBn hi, cond_true, share_eq, getD_get _ hi, bne_self_eq_false, cond_false]
    rw [laws_eqPrefix.refl k _ rfl (by simp only; omega) (by simp only; omega)]
    simp only [Option.bind_some, Bool.not_true, cond_false]
    rw [next_i (by omega)]
theorem laws_eqInt64S.refl (k : Nat) (x : List Int × List Int × Unit) (he : x.2.1 = x.1) (hb : K.big (.sl (.int .i64)) x.1 ≤ 4294967296) (hk : K.big (.sl (.int .i64)) x.1 < k) : laws_eqInt64S.F k x = some ((true, ()), ()) := by
  obtain ⟨x, y, _⟩ := x
  simp only at he hb hk
  subst he
  have hl : y.length ≤ K.big (.sl (.int .i64)) y := big_len (e := (.int .i64)) y
  unfold laws_eqInt64S.F
  simp only [bne_self_eq_false, cond_false]
  refine loop_inv (len := y.length) (fun n i (s : Unit) => laws_eqInt64S.l4 k _ _ n y y i) (fun i s => True) _ ?_ ?_ k 0 () (Nat.zero_le _) trivial (by omega)
  · rintro n s -
    simp only [laws_eqInt64S.l4, lt_dec_f, cond_false]
  · rintro n i s hi -
    have hm : K.big (.int .i64) y[i] + 1 ≤ K.big (.sl (.int .i64)) y := big_mem (e := (.int .i64)) (l := y) (List.getElem_mem hi)
    refine ⟨(), ?_, trivial⟩
    simp only [laws_eqInt64S.l4, lt_dec hi, inBn hi, cond_true, share_eq, getD_get _ hi, bne_self_eq_false, cond_false]
    rw [next_i (by omega)]
theorem laws_eqAttrs.refl (k : Nat) (x : (Int × (List Int × (Int × (Int × (Int × Unit))))) × (Int × (List Int × (Int × (Int × (Int × Unit))))) × Unit) (he : x.2.1 = x.1) (hb : K.big kAttrs x.1 ≤ 4294967296) (hk : K.big kAttrs x.1 < k) : laws_eqAttrs.F k x = some ((true, ()), ()) := by
  obtain ⟨x, y, _⟩ := x
  simp only at he hb hk
  subst he
  unfold laws_eqAttrs.F
  (try simp only [bne_self_eq_false, cond_false])
  rw [laws_eqInt64S.refl k _ rfl (by (try simp only [bigp, bigi, bigb, bigu, bigs, kerrorAddressString, kPrefix, kBytesResult, kboundsError, kAttrs, kUpdate, kMessage] at *); omega) (by (try simp only [bigp, bigi, bigb, bigu, bigs, kerrorAddressString, kPrefix, kBytesResult, kboundsError, kAttrs, kUpdate, kMessage] at *); omega)]
  (try simp only [Option.bind_some, Bool.not_true, cond_false, bne_self_eq_false, BEq.rfl])
theorem laws_eqUpdate.refl (k : Nat) (x : (List (Int × (Int × Unit)) × (Bool × ((Int × (List Int × (Int × (Int × (Int × Unit))))) × (List (Int × (Int × Unit)) × Unit)))) × (List (Int × (Int × Unit)) × (Bool × ((Int × (List Int × (Int × (Int × (Int × Unit))))) × (List (Int × (Int × Unit)) × Unit)))) × Unit) (he : x.2.1 = x.1) (hb : K.big kUpdate x.1 ≤ 4294967296) (hk : K.big kUpdate x.1 < k) : laws_eqUpdate.F k x = some ((true, ()), ()) := by
  obtain ⟨x, y, _⟩ := x
  simp only at he hb hk
  subst he
  unfold laws_eqUpdate.F
  (try simp only [bne_self_eq_false, cond_false])
  rw [laws_eqPrefixS.refl k _ rfl (by (try simp only [bigp, bigi, bigb, bigu, bigs, kerrorAddressString, kPrefix, kBytesResult, kboundsError, kAttrs, kUpdate, kMessage] at *); omega) (by (try simp only [bigp, bigi, bigb, bigu, bigs, kerrorAddressString, kPrefix, kBytesResult, kboundsError, kAttrs, kUpdate, kMessage] at *); omega)]
  (try simp only [Option.bind_some, Bool.not_true, cond_false, bne_self_eq_false, BEq.rfl])
  rw [laws_eqAttrs.refl k _ rfl (by (try simp only [bigp, bigi, bigb, bigu, bigs, kerrorAddressString, kPrefix, kBytesResult, kboundsError, kAttrs, kUpdate, kMessage] at *); omega) (by (try simp only [bigp, bigi, bigb, bigu, bigs, kerrorAddressString, kPrefix, kBytesResult, kboundsError, kAttrs, kUpdate, kMessage] at *); omega)]
  (try simp only [Option.bind_some, Bool.not_true, cond_false, bne_self_eq_false, BEq.rfl])
  rw [laws_eqPrefixS.refl k _ rfl (by (try simp only [bigp, bigi, bigb, bigu, bigs, kerrorAddressString, kPrefix, kBytesResult, kboundsError, kAttrs, kUpdate, kMessage] at *); omega) (by (try simp only [bigp, bigi, bigb, bigu, bigs, kerrorAddressString, kPrefix, kBytesResult, kboundsError, kAttrs, kUpdate, kMessage] at *); omega)]
  (try simp only [Option.bind_some, Bool.not_true, cond_false, bne_self_eq_false, BEq.rfl])
theorem laws_eqMessage.refl (k : Nat) (x : (Int × (Int × (Int × (Int × (Int × (Int × ((List (Int × (Int × Unit)) × (Bool × ((Int × (List Int × (Int × (Int × (Int × Unit))))) × (List (Int × (Int × Unit)) × Unit)))) × Unit))))))) × (Int × (Int × (Int × (Int × (Int × (Int × ((List (Int × (Int × Unit)) × (Bool × ((Int × (List Int × (Int × (Int × (Int × Unit))))) × (List (Int × (Int × Unit)) × Unit)))) × Unit))))))) × Unit) (he : x.2.1 = x.1) (hb : K.big kMessage x.1 ≤ 4294967296) (hk : K.big kMessage x.1 < k) : laws_eqMessage.F k x = some ((true, ()), ()) := by
  obtain ⟨x, y, _⟩ := x
  simp only at he hb hk
  subst he
  unfold laws_eqMessage.F
  (try simp only [bne_self_eq_false, cond_false])
  rw [laws_eqUpdate.refl k _ rfl (by (try simp only [bigp, bigi, bigb, bigu, bigs, kerrorAddressString, kPrefix, kBytesResult, kboundsError, kAttrs, kUpdate, kMessage] at *); omega) (by (try simp only [bigp, bigi, bigb, bigu, bigs, kerrorAddressString, kPrefix, kBytesResult, kboundsError, kAttrs, kUpdate, kMessage] at *); omega)]
  (try simp only [Option.bind_some, Bool.not_true, cond_false, bne_self_eq_false, BEq.rfl])
theorem laws_toPrefix.eq (k : Nat) (x : (Int × (Int × Unit)) × Unit) (hb : K.big kPrefix x.1 ≤ 4294967296) (hk : K.big kPrefix x.1 < k) : laws_toPrefix.F k x = some ((x.1, ()), ()) := by
  obtain ⟨x, _⟩ := x
  unfold laws_toPrefix.F
  rfl
theorem laws_toPrefixS.eq (k : Nat) (x : List (Int × (Int × Unit)) × Unit) (hb : K.big (.sl kPrefix) x.1 ≤ 4294967296) (hk : K.big (.sl kPrefix) x.1 < k) : laws_toPrefixS.F k x = some ((x.1, ()), ()) := by
  obtain ⟨x, _⟩ := x
  simp only at hb hk ⊢
  have hl : x.length ≤ K.big (.sl kPrefix) x := big_len (e := kPrefix) x
  unfold laws_toPrefixS.F
  simp only [Int.le_refl, decide_true, cond_true, Int.toNat_natCast]
  rw [roomy_le 4294967296 (by omega) (by decide), cond_true]
  refine loop_inv (len := x.length) (fun n i s => laws_toPrefixS.l3 k _ n x i s) (fun i s => s.length = x.length ∧ ∀ j, j < i → s[j]? = x[j]?) _ ?_ ?_ k 0 _ (Nat.zero_le _) ⟨by simp, fun j h => by omega⟩ (by omega)
  · rintro n s ⟨h1, h2⟩
    simp only [laws_toPrefixS.l3, lt_dec_f, cond_false]
    rw [all_eq h1 h2]
  · rintro n i s hi ⟨h1, h2⟩
    have hm : K.big kPrefix x[i] + 1 ≤ K.big (.sl kPrefix) x := big_mem (e := kPrefix) (l := x) (List.getElem_mem hi)
    refine ⟨s.set i x[i], ?_, set_keep h1 hi h2 (by simp [hi])⟩
    simp only [laws_toPrefixS.l3, lt_dec hi, inBn hi, cond_true, share_eq, getD_get _ hi]
    rw [laws_toPrefix.eq k _ (by simp only; omega) (by simp only; omega)]
    simp only [Option.bind_some, h1, inBn hi, cond_true, Int.toNat_natCast]
    rw [next_i (by omega)]
theorem laws_toInt64S.eq (k : Nat) (x : List Int × Unit) (hb : K.big (.sl (.int .i64)) x.1 ≤ 4294967296) (hk : K.big (.sl (.int .i64)) x.1 < k) : laws_toInt64S.F k x = some ((x.1, ()), ()) := by
  obtain ⟨x, _⟩ := x
  simp only at hb hk ⊢
  have hl : x.length ≤ K.big (.sl (.int .i64)) x := big_len (e := (.int .i64)) x
  unfold laws_toInt64S.F
  simp only [Int.le_refl, decide_true, cond_true, Int.toNat_natCast]
  rw [roomy_le 4294967296 (by omega) (by decide), cond_true]
  refine loop_inv (len := x.length) (fun n i s => laws_toInt64S.l3 k _ n x i s) (fun i s => s.length = x.length ∧ ∀ j, j < i → s[j]? = x[j]?) _ ?_ ?_ k 0 _ (Nat.zero_le _) ⟨by simp, fun j h => by omega⟩ (by omega)
  · rintro n s ⟨h1, h2⟩
    simp only [laws_toInt64S.l3, lt_dec_f, cond_false]
    rw [all_eq h1 h2]
  · rintro n i s hi ⟨h1, h2⟩
    have hm : K.big (.int .i64) x[i] + 1 ≤ K.big (.sl (.int .i64)) x := big_mem (e := (.int .i64)) (l := x) (List.getElem_mem hi)
    refine ⟨s.set i x[i], ?_, set_keep h1 hi h2 (by simp [hi])⟩
    simp only [laws_toInt64S.l3, lt_dec hi, inBn hi, cond_true, share_eq, getD_get _ hi]
    simp only [Option.bind_some, h1, inBn hi, cond_true, Int.toNat_natCast]
    rw [next_i (by omega)]
theorem laws_toAttrs.eq (k : Nat) (x : (Int × (List Int × (Int × (Int × (Int × Unit))))) × Unit) (hb : K.big kAttrs x.1 ≤ 4294967296) (hk : K.big kAttrs x.1 < k) : laws_toAttrs.F k x = some ((x.1, ()), ()) := by
  obtain ⟨x, _⟩ := x
  unfold laws_toAttrs.F
  rw [laws_toInt64S.eq k _ (by (try simp only [bigp, bigi, bigb, bigu, bigs, kerrorAddressString, kPrefix, kBytesResult, kboundsError, kAttrs, kUpdate, kMessage] at *); omega) (by (try simp only [bigp, bigi, bigb, bigu, bigs, kerrorAddressString, kPrefix, kBytesResult, kboundsError, kAttrs, kUpdate, kMessage] at *); omega)]
  simp only [Option.bind_some]
theorem laws_toUpdate.eq (k : Nat) (x : (List (Int × (Int × Unit)) × (Bool × ((Int × (List Int × (Int × (Int × (Int × Unit))))) × (List (Int × (Int × Unit)) × Unit)))) × Unit) (hb : K.big kUpdate x.1 ≤ 4294967296) (hk : K.big kUpdate x.1 < k) : laws_toUpdate.F k x = some ((x.1, ()), ()) := by
  obtain ⟨x, _⟩ := x
  unfold laws_toUpdate.F
  rw [laws_toPrefixS.eq k _ (by (try simp only [bigp, bigi, bigb, bigu, bigs, kerrorAddressString, kPrefix, kBytesResult, kboundsError, kAttrs, kUpdate, kMessage] at *); omega) (by (try simp only [bigp, bigi, bigb, bigu, bigs, kerrorAddressString, kPrefix, kBytesResult, kboundsError, kAttrs, kUpdate, kMessage] at *); omega)]
  simp only [Option.bind_some]
  rw [laws_toAttrs.eq k _ (by (try simp only [bigp, bigi, bigb, bigu, bigs, kerrorAddressString, kPrefix, kBytesResult, kboundsError, kAttrs, kUpdate, kMessage] at *); omega) (by (try simp only [bigp, bigi, bigb, bigu, bigs, kerrorAddressString, kPrefix, kBytesResult, kboundsError, kAttrs, kUpdate, kMessage] at *); omega)]
  simp only [Option.bind_some]
  rw [laws_toPrefixS.eq k _ (by (try simp only [bigp, bigi, bigb, bigu, bigs, kerrorAddressString, kPrefix, kBytesResult, kboundsError, kAttrs, kUpdate, kMessage] at *); omega) (by (try simp only [bigp, bigi, bigb, bigu, bigs, kerrorAddressString, kPrefix, kBytesResult, kboundsError, kAttrs, kUpdate, kMessage] at *); omega)]
  simp only [Option.bind_some]
theorem laws_toMessage.eq (k : Nat) (x : (Int × (Int × (Int × (Int × (Int × (Int × ((List (Int × (Int × Unit)) × (Bool × ((Int × (List Int × (Int × (Int × (Int × Unit))))) × (List (Int × (Int × Unit)) × Unit)))) × Unit))))))) × Unit) (hb : K.big kMessage x.1 ≤ 4294967296) (hk : K.big kMessage x.1 < k) : laws_toMessage.F k x = some ((x.1, ()), ()) := by
  obtain ⟨x, _⟩ := x
  unfold laws_toMessage.F
  rw [laws_toUpdate.eq k _ (by (try simp only [bigp, bigi, bigb, bigu, bigs, kerrorAddressString, kPrefix, kBytesResult, kboundsError, kAttrs, kUpdate, kMessage] at *); omega) (by (try simp only [bigp, bigi, bigb, bigu, bigs, kerrorAddressString, kPrefix, kBytesResult, kboundsError, kAttrs, kUpdate, kMessage] at *); omega)]
  simp only [Option.bind_some]
theorem laws_szInt64S.tot (k : Nat) (x : List Int × Int × Unit) (hb : K.big (.sl (.int .i64)) x.1 ≤ 4294967296) (hk : K.big (.sl (.int .i64)) x.1 < k) (h0 : -1 ≤ x.2.1) (h1 : x.2.1 ≤ 4294967296) : ∃ c : Int, laws_szInt64S.F k x = some ((c, ()), ()) ∧ -1 ≤ c ∧ c ≤ 4294967296 := by
  obtain ⟨x, l, _⟩ := x
  simp only at hb hk h0 h1
  have hl : x.length ≤ K.big (.sl (.int .i64)) x := big_len (e := (.int .i64)) x
  unfold laws_szInt64S.F
  simp only [w64 (n := l - (x.length : Int)) (by omega) (by omega)]
  by_cases hc : l - (x.length : Int) < 0
  · exact ⟨-1, by simp [hc], by omega, by omega⟩
  · exact ⟨l - (x.length : Int), by simp [hc], by omega, by omega⟩
theorem laws_szAttrs.tot (k : Nat) (x : (Int × (List Int × (Int × (Int × (Int × Unit))))) × Int × Unit) (hb : K.big kAttrs x.1 ≤ 4294967296) (hk : K.big kAttrs x.1 < k) (h0 : -1 ≤ x.2.1) (h1 : x.2.1 ≤ 4294967296) : ∃ c : Int, laws_szAttrs.F k x = some ((c, ()), ()) ∧ -1 ≤ c ∧ c ≤ 4294967296 := by
  obtain ⟨x, l, _⟩ := x
  simp only at hb hk h0 h1
  unfold laws_szAttrs.F
  obtain ⟨c0, e0, l0, u0⟩ := laws_szInt64S.tot k (x.2.1, l, ()) (by (try simp only [bigp, bigi, bigb, bigu, bigs, kerrorAddressString, kPrefix, kBytesResult, kboundsError, kAttrs, kUpdate, kMessage] at *); omega) (by (try simp only [bigp, bigi, bigb, bigu, bigs, kerrorAddressString, kPrefix, kBytesResult, kboundsError, kAttrs, kUpdate, kMessage] at *); omega) (by simp only; omega) (by simp only; omega)
  simp only [e0, Option.bind_some]
  by_cases g0 : c0 < 0
  · exact ⟨-1, by simp [g0], by omega, by omega⟩
  simp only [decide_eq_false g0, cond_false]
  exact ⟨c0, rfl, by omega, by omega⟩
theorem laws_szPrefixS.tot (k : Nat) (x : List (Int × (Int × Unit)) × Int × Unit) (hb : K.big (.sl kPrefix) x.1 ≤ 4294967296) (hk : K.big (.sl kPrefix) x.1 < k) (h0 : -1 ≤ x.2.1) (h1 : x.2.1 ≤ 4294967296) : ∃ c : Int, laws_szPrefixS.F k x = some ((c, ()), ()) ∧ -1 ≤ c ∧ c ≤ 4294967296 := by
  obtain ⟨x, l, _⟩ := x
  simp only at hb hk h0 h1
  have hl : x.length ≤ K.big (.sl kPrefix) x := big_len (e := kPrefix) x
  unfold laws_szPrefixS.F
  simp only [w64 (n := l - (x.length : Int)) (by omega) (by omega)]
  by_cases hc : l - (x.length : Int) < 0
  · exact ⟨-1, by simp [hc], by omega, by omega⟩
  · exact ⟨l - (x.length : Int), by simp [hc], by omega, by omega⟩
theorem laws_szUpdate.tot (k : Nat) (x : (List (Int × (Int × Unit)) × (Bool × ((Int × (List Int × (Int × (Int × (Int × Unit))))) × (List (Int × (Int × Unit)) × Unit)))) × Int × Unit) (hb : K.big kUpdate x.1 ≤ 4294967296) (hk : K.big kUpdate x.1 < k) (h0 : -1 ≤ x.2.1) (h1 : x.2.1 ≤ 4294967296) : ∃ c : Int, laws_szUpdate.F k x = some ((c, ()), ()) ∧ -1 ≤ c ∧ c ≤ 4294967296 := by
  obtain ⟨x, l, _⟩ := x
  simp only at hb hk h0 h1
  unfold laws_szUpdate.F
  obtain ⟨c0, e0, l0, u0⟩ := laws_szPrefixS.tot k (x.1, l, ()) (by (try simp only [bigp, bigi, bigb, bigu, bigs, kerrorAddressString, kPrefix, kBytesResult, kboundsError, kAttrs, kUpdate, kMessage] at *); omega) (by (try simp only [bigp, bigi, bigb, bigu, bigs, kerrorAddressString, kPrefix, kBytesResult, kboundsError, kAttrs, kUpdate, kMessage] at *); omega) (by simp only; omega) (by simp only; omega)
  simp only [e0, Option.bind_some]
  by_cases g0 : c0 < 0
  · exact ⟨-1, by simp [g0], by omega, by omega⟩
  simp only [decide_eq_false g0, cond_false]
  obtain ⟨c1, e1, l1, u1⟩ := laws_szAttrs.tot k (x.2.2.1, c0, ()) (by (try simp only [bigp, bigi, bigb, bigu, bigs, kerrorAddressString, kPrefix, kBytesResult, kboundsError, kAttrs, kUpdate, kMessage] at *); omega) (by (try simp only [bigp, bigi, bigb, bigu, bigs, kerrorAddressString, kPrefix, kBytesResult, kboundsError, kAttrs, kUpdate, kMessage] at *); omega) (by simp only; omega) (by simp only; omega)
  simp only [e1, Option.bind_some]
  by_cases g1 : c1 < 0
  · exact ⟨-1, by simp [g1], by omega, by omega⟩
  simp only [decide_eq_false g1, cond_false]
  obtain ⟨c2, e2, l2, u2⟩ := laws_szPrefixS.tot k (x.2.2.2.1, c1, ()) (by (try simp only [bigp, bigi, bigb, bigu, bigs, kerrorAddressString, kPrefix, kBytesResult, kboundsError, kAttrs, kUpdate, kMessage] at *); omega) (by (try simp only [bigp, bigi, bigb, bigu, bigs, kerrorAddressString, kPrefix, kBytesResult, kboundsError, kAttrs, kUpdate, kMessage] at *); omega) (by simp only; omega) (by simp only; omega)
  simp only [e2, Option.bind_some]
  by_cases g2 : c2 < 0
  · exact ⟨-1, by simp [g2], by omega, by omega⟩
  simp only [decide_eq_false g2, cond_false]
  exact ⟨c2, rfl, by omega, by omega⟩
theorem laws_szMessage.tot (k : Nat) (x : (Int × (Int × (Int × (Int × (Int × (Int × ((List (Int × (Int × Unit)) × (Bool × ((Int × (List Int × (Int × (Int × (Int × Unit))))) × (List (Int × (Int × Unit)) × Unit)))) × Unit))))))) × Int × Unit) (hb : K.big kMessage x.1 ≤ 4294967296) (hk : K.big kMessage x.1 < k) (h0 : -1 ≤ x.2.1) (h1 : x.2.1 ≤ 4294967296) : ∃ c : Int, laws_szMessage.F k x = some ((c, ()), ()) ∧ -1 ≤ c ∧ c ≤ 4294967296 := by
  obtain ⟨x, l, _⟩ := x
  simp only at hb hk h0 h1
  unfold laws_szMessage.F
  obtain ⟨c0, e0, l0, u0⟩ := laws_szUpdate.tot k (x.2.2.2.2.2.2.1, l, ()) (by (try simp only [bigp, bigi, bigb, bigu, bigs, kerrorAddressString, kPrefix, kBytesResult, kboundsError, kAttrs, kUpdate, kMessage] at *); omega) (by (try simp only [bigp, bigi, bigb, bigu, bigs, kerrorAddressString, kPrefix, kBytesResult, kboundsError, kAttrs, kUpdate, kMessage] at *); omega) (by simp only; omega) (by simp only; omega)
  simp only [e0, Option.bind_some]
  by_cases g0 : c0 < 0
  · exact ⟨-1, by simp [g0], by omega, by omega⟩
  simp only [decide_eq_false g0, cond_false]
  exact ⟨c0, rfl, by omega, by omega⟩
theorem laws_eqByteS.refl (k : Nat) (x : List Int × List Int × Unit) (he : x.2.1 = x.1) (hb : K.big (.sl (.int .u8)) x.1 ≤ 4294967296) (hk : K.big (.sl (.int .u8)) x.1 < k) : laws_eqByteS.F k x = some ((true, ()), ()) := by
  obtain ⟨x, y, _⟩ := x
  simp only at he hb hk
  subst he
  have hl : y.length ≤ K.big (.sl (.int .u8)) y := big_len (e := (.int .u8)) y
  unfold laws_eqByteS.F
  simp only [bne_self_eq_false, cond_false]
  refine loop_inv (len := y.length) (fun n i (s : Unit) => laws_eqByteS.l4 k _ _ n y y i) (fun i s => True) _ ?_ ?_ k 0 () (Nat.zero_le _) trivial (by omega)
  · rintro n s -
    simp only [laws_eqByteS.l4, lt_dec_f, cond_false]
  · rintro n i s hi -
    have hm : K.big (.int .u8) y[i] + 1 ≤ K.big (.sl (.int .u8)) y := big_mem (e := (.int .u8)) (l := y) (List.getElem_mem hi)
    refine ⟨(), ?_, trivial⟩
    simp only [laws_eqByteS.l4, lt_dec hi, inBn hi, cond_true, share_eq, getD_get _ hi, bne_self_eq_false, cond_false]
    rw [next_i (by omega)]
theorem laws_eqBytesResult.refl (k : Nat) (x : (Int × (List Int × Unit)) × (Int × (List Int × Unit)) × Unit) (he : x.2.1 = x.1) (hb : K.big kBytesResult x.1 ≤ 4294967296) (hk : K.big kBytesResult x.1 < k) : laws_eqBytesResult.F k x = some ((true, ()), ()) := by
  obtain ⟨x, y, _⟩ := x
  simp only at he hb hk
  subst he
  unfold laws_eqBytesResult.F
  (try simp only [bne_self_eq_false, cond_false])
  rw [laws_eqByteS.refl k _ rfl (by (try simp only [bigp, bigi, bigb, bigu, bigs, kerrorAddressString, kPrefix, kBytesResult, kboundsError, kAttrs, kUpdate, kMessage] at *); omega) (by (try simp only [bigp, bigi, bigb, bigu, bigs, kerrorAddressString, kPrefix, kBytesResult, kboundsError, kAttrs, kUpdate, kMessage] at *); omega)]
  (try simp only [Option.bind_some, Bool.not_true, cond_false, bne_self_eq_false, BEq.rfl])
theorem laws_markInt64S.tot (k : Nat) (x : List Int) (l : Int) (hb : K.big (.sl (.int .i64)) x ≤ 4294967296) (hk : K.big (.sl (.int .i64)) x < k) (h0 : 0 ≤ l) (h1 : l + 64 * (K.big (.sl (.int .i64)) x : Int) ≤ 1125899906842624) : ∃ (m : Int) (b0 : List Int), laws_markInt64S.F k (x, l, ()) = some ((m, ()), (b0, ())) ∧ l ≤ m ∧ m ≤ l + 64 * (K.big (.sl (.int .i64)) x : Int) ∧ K.big (.sl (.int .i64)) b0 = K.big (.sl (.int .i64)) x := by
  have hl : x.length ≤ K.big (.sl (.int .i64)) x := big_len (e := (.int .i64)) x
  have hbig := big_int .i64 x
  let ys := upto (fun n => n) l x.length
  have hys : ys.length = x.length := upto_len _ _ _
  have hget : ∀ i, i < x.length → ys[i]? = some (l + i) := fun i hi => upto_get _ _ _ i hi
  refine ⟨l + x.length, ys, ?_, by omega, by omega, by rw [big_int, big_int, hys]⟩
  · unfold laws_markInt64S.F
    refine loop_inv (len := x.length) (fun n i (s : Int × List Int) => laws_markInt64S.l2 k _ n s.1 i s.2) (fun i s => s.1 = l + i ∧ s.2.length = ys.length ∧ ∀ j, j < i → s.2[j]? = ys[j]?) _ ?_ ?_ k 0 (l, x) (Nat.zero_le _) ⟨by simp, hys.symm, fun j h => by omega⟩ (by omega)
    · rintro n ⟨s, t⟩ ⟨rfl, h1, h2⟩
      simp only at h1 h2
      simp only [laws_markInt64S.l2, h1, hys, lt_dec_f, cond_false]
      rw [all_eq h1 (by rw [hys]; exact h2)]
    · rintro n i ⟨s, t⟩ hi ⟨rfl, h1, h2⟩
      simp only at h1 h2
      refine ⟨(l + ((i + 1 : Nat) : Int), t.set i (l + i)), ?_, rfl, set_keep h1 (by omega) h2 (hget i hi)⟩
      simp only [laws_markInt64S.l2, h1, hys, lt_dec hi, inBn hi, cond_true, share_eq, Int.toNat_natCast]
      rw [next_i (by omega), next_k h0 (by omega) (by omega)]
theorem laws_markAttrs.tot (k : Nat) (x : (Int × (List Int × (Int × (Int × (Int × Unit)))))) (l : Int) (hb : K.big kAttrs x ≤ 4294967296) (hk : K.big kAttrs x < k) (h0 : 0 ≤ l) (h1 : l + 64 * (K.big kAttrs x : Int) ≤ 1125899906842624) : ∃ (m : Int) (b0 : List Int), laws_markAttrs.F k (x, l, ()) = some ((m, ()), ((x.1, (b0, x.2.2)), ())) ∧ l ≤ m ∧ m ≤ l + 64 * (K.big kAttrs x : Int) ∧ K.big (.sl (.int .i64)) b0 = K.big (.sl (.int .i64)) x.2.1 := by
  obtain ⟨m0, b0_0, e0, l0, u0, g0_0⟩ := laws_markInt64S.tot k x.2.1 l (by (try simp only [bigp, bigi, bigb, bigu, bigs, kerrorAddressString, kPrefix, kBytesResult, kboundsError, kAttrs, kUpdate, kMessage] at *); omega) (by (try simp only [bigp, bigi, bigb, bigu, bigs, kerrorAddressString, kPrefix, kBytesResult, kboundsError, kAttrs, kUpdate, kMessage] at *); omega) (by omega) (by (try simp only [bigp, bigi, bigb, bigu, bigs, kerrorAddressString, kPrefix, kBytesResult, kboundsError, kAttrs, kUpdate, kMessage] at *); omega)
  refine ⟨m0, b0_0, ?_, by omega, (by (try simp only [bigp, bigi, bigb, bigu, bigs, kerrorAddressString, kPrefix, kBytesResult, kboundsError, kAttrs, kUpdate, kMessage] at *); omega), g0_0⟩
  · unfold laws_markAttrs.F
    simp only [e0, Option.bind_some]
theorem laws_markPrefixS.tot (k : Nat) (x : List (Int × (Int × Unit))) (l : Int) (hb : K.big (.sl kPrefix) x ≤ 4294967296) (hk : K.big (.sl kPrefix) x < k) (h0 : 0 ≤ l) (h1 : l + 64 * (K.big (.sl kPrefix) x : Int) ≤ 1125899906842624) : ∃ (m : Int) (b0 : List (Int × (Int × Unit))), laws_markPrefixS.F k (x, l, ()) = some ((m, ()), (b0, ())) ∧ l ≤ m ∧ m ≤ l + 64 * (K.big (.sl kPrefix) x : Int) ∧ K.big (.sl kPrefix) b0 = K.big (.sl kPrefix) x := by
  have hl : x.length ≤ K.big (.sl kPrefix) x := big_len (e := kPrefix) x
  have hst : ∀ (n : Nat) (s : Int) (i : Nat) (t : List (Int × (Int × Unit))), 0 ≤ s → s ≤ 2251799813685248 → i < t.length → t.length ≤ 4294967296 → ∀ C, ∃ t' : List (Int × (Int × Unit)), laws_markPrefixS.l2 (ρ := (Int × Unit) × (List (Int × (Int × Unit)) × Unit)) k C (n + 1) s (i : Int) t = laws_markPrefixS.l2 k C n (s + 2) ((i + 1 : Nat) : Int) t' ∧ t'.length = t.length := by
    intro n s i t g0 g1 hi hl C
    refine ⟨?t, ?h1, ?h2⟩
    case h1 =>
      simp only [laws_markPrefixS.l2, lt_dec hi, inBn hi, cond_true, share_eq, Int.toNat_natCast, List.length_set, next_i (show i < 4611686018427387904 by omega)]
      (try rw [w64 (n := s + 1) (by omega) (by omega)])
      (try rw [show s + 1 + 1 = s + 2 by omega])
      (try rw [w64 (n := s + 2) (by omega) (by omega)])
      (try rw [show s + 2 + 1 = s + 3 by omega])
      (try rfl)
    case h2 => simp only [List.length_set]
  have key : ∀ (d : Nat) (n : Nat) (s : Int) (i : Nat) (t : List (Int × (Int × Unit))) C, t.length - i = d → d < n → i ≤ t.length → t.length = x.length → 0 ≤ s → s + 2 * d ≤ 1125899906842624 → ∃ t' : List (Int × (Int × Unit)), laws_markPrefixS.l2 (ρ := (Int × Unit) × (List (Int × (Int × Unit)) × Unit)) k C n s (i : Int) t = C (s + 2 * d, t', ()) ∧ K.big (.sl kPrefix) t' = K.big (.sl kPrefix) x := by
    intro d
    induction d with
    | zero =>
      intro n s i t C hd hn hi hlx g0 g1
      obtain ⟨n, rfl⟩ : ∃ m, n = m + 1 := ⟨n - 1, by omega⟩
      obtain rfl : i = t.length := by omega
      refine ⟨t, ?_, ?_⟩
      · simp only [laws_markPrefixS.l2, lt_dec_f, cond_false]
        simp
      · have e1 : K.big (.sl kPrefix) t = t.length := flat_big (e := kPrefix) rfl t
        have e2 : K.big (.sl kPrefix) x = x.length := flat_big (e := kPrefix) rfl x
        omega
    | succ d ih =>
      intro n s i t C hd hn hi hlx g0 g1
      obtain ⟨n, rfl⟩ : ∃ m, n = m + 1 := ⟨n - 1, by omega⟩
      obtain ⟨t1, h1, h2⟩ := hst n s i t g0 (by omega) (by omega) (by omega) C
      obtain ⟨t2, h3, h4⟩ := ih n (s + 2) (i + 1) t1 C (by omega) (by omega) (by omega) (by omega) (by omega) (by omega)
      refine ⟨t2, ?_, h4⟩
      rw [h1, h3]
      congr 2
      omega
  have hbl : K.big (.sl kPrefix) x = x.length := flat_big (e := kPrefix) rfl x
  unfold laws_markPrefixS.F
  obtain ⟨t, h2, h3⟩ := key x.length k l 0 x _ rfl (by omega) (Nat.zero_le _) rfl h0 (by omega)
  exact ⟨_, t, h2, by omega, by omega, h3⟩
theorem laws_markUpdate.tot (k : Nat) (x : (List (Int × (Int × Unit)) × (Bool × ((Int × (List Int × (Int × (Int × (Int × Unit))))) × (List (Int × (Int × Unit)) × Unit))))) (l : Int) (hb : K.big kUpdate x ≤ 4294967296) (hk : K.big kUpdate x < k) (h0 : 0 ≤ l) (h1 : l + 64 * (K.big kUpdate x : Int) ≤ 1125899906842624) : ∃ (m : Int) (b0 : List (Int × (Int × Unit))) (b1 : List Int) (b2 : List (Int × (Int × Unit))), laws_markUpdate.F k (x, l, ()) = some ((m, ()), ((b0, (x.2.1, ((x.2.2.1.1, (b1, x.2.2.1.2.2)), (b2, ())))), ())) ∧ l ≤ m ∧ m ≤ l + 64 * (K.big kUpdate x : Int) ∧ K.big (.sl kPrefix) b0 = K.big (.sl kPrefix) x.1 ∧ K.big (.sl (.int .i64)) b1 = K.big (.sl (.int .i64)) x.2.2.1.2.1 ∧ K.big (.sl kPrefix) b2 = K.big (.sl kPrefix) x.2.2.2.1 := by
  obtain ⟨m0, b0_0, e0, l0, u0, g0_0⟩ := laws_markPrefixS.tot k x.1 l (by (try simp only [bigp, bigi, bigb, bigu, bigs, kerrorAddressString, kPrefix, kBytesResult, kboundsError, kAttrs, kUpdate, kMessage] at *); omega) (by (try simp only [bigp, bigi, bigb, bigu, bigs, kerrorAddressString, kPrefix, kBytesResult, kboundsError, kAttrs, kUpdate, kMessage] at *); omega) (by omega) (by (try simp only [bigp, bigi, bigb, bigu, bigs, kerrorAddressString, kPrefix, kBytesResult, kboundsError, kAttrs, kUpdate, kMessage] at *); omega)
  obtain ⟨m1, b1_0, e1, l1, u1, g1_0⟩ := laws_markAttrs.tot k x.2.2.1 m0 (by (try simp only [bigp, bigi, bigb, bigu, bigs, kerrorAddressString, kPrefix, kBytesResult, kboundsError, kAttrs, kUpdate, kMessage] at *); omega) (by (try simp only [bigp, bigi, bigb, bigu, bigs, kerrorAddressString, kPrefix, kBytesResult, kboundsError, kAttrs, kUpdate, kMessage] at *); omega) (by omega) (by (try simp only [bigp, bigi, bigb, bigu, bigs, kerrorAddressString, kPrefix, kBytesResult, kboundsError, kAttrs, kUpdate, kMessage] at *); omega)
  obtain ⟨m2, b2_0, e2, l2, u2, g2_0⟩ := laws_markPrefixS.tot k x.2.2.2.1 m1 (by (try simp only [bigp, bigi, bigb, bigu, bigs, kerrorAddressString, kPrefix, kBytesResult, kboundsError, kAttrs, kUpdate, kMessage] at *); omega) (by (try simp only [bigp, bigi, bigb, bigu, bigs, kerrorAddressString, kPrefix, kBytesResult, kboundsError, kAttrs, kUpdate, kMessage] at *); omega) (by omega) (by (try simp only [bigp, bigi, bigb, bigu, bigs, kerrorAddressString, kPrefix, kBytesResult, kboundsError, kAttrs, kUpdate, kMessage] at *); omega)
  refine ⟨m2, b0_0, b1_0, b2_0, ?_, by omega, (by (try simp only [bigp, bigi, bigb, bigu, bigs, kerrorAddressString, kPrefix, kBytesResult, kboundsError, kAttrs, kUpdate, kMessage] at *); omega), g0_0, g1_0, g2_0⟩
  · unfold laws_markUpdate.F
    simp only [e0, Option.bind_some]
    simp only [e1, Option.bind_some]
    simp only [e2, Option.bind_some]
theorem laws_markMessage.tot (k : Nat) (x : (Int × (Int × (Int × (Int × (Int × (Int × ((List (Int × (Int × Unit)) × (Bool × ((Int × (List Int × (Int × (Int × (Int × Unit))))) × (List (Int × (Int × Unit)) × Unit)))) × Unit)))))))) (l : Int) (hb : K.big kMessage x ≤ 4294967296) (hk : K.big kMessage x < k) (h0 : 0 ≤ l) (h1 : l + 64 * (K.big kMessage x : Int) ≤ 1125899906842624) : ∃ (m : Int) (b0 : List (Int × (Int × Unit))) (b1 : List Int) (b2 : List (Int × (Int × Unit))), laws_markMessage.F k (x, l, ()) = some ((m, ()), ((x.1, (x.2.1, (x.2.2.1, (x.2.2.2.1, (x.2.2.2.2.1, (x.2.2.2.2.2.1, ((b0, (x.2.2.2.2.2.2.1.2.1, ((x.2.2.2.2.2.2.1.2.2.1.1, (b1, x.2.2.2.2.2.2.1.2.2.1.2.2)), (b2, ())))), ()))))))), ())) ∧ l ≤ m ∧ m ≤ l + 64 * (K.big kMessage x : Int) ∧ K.big (.sl kPrefix) b0 = K.big (.sl kPrefix) x.2.2.2.2.2.2.1.1 ∧ K.big (.sl (.int .i64)) b1 = K.big (.sl (.int .i64)) x.2.2.2.2.2.2.1.2.2.1.2.1 ∧ K.big (.sl kPrefix) b2 = K.big (.sl kPrefix) x.2.2.2.2.2.2.1.2.2.2.1 := by
  obtain ⟨m0, b0_0, b0_1, b0_2, e0, l0, u0, g0_0, g0_1, g0_2⟩ := laws_markUpdate.tot k x.2.2.2.2.2.2.1 l (by (try simp only [bigp, bigi, bigb, bigu, bigs, kerrorAddressString, kPrefix, kBytesResult, kboundsError, kAttrs, kUpdate, kMessage] at *); omega) (by (try simp only [bigp, bigi, bigb, bigu, bigs, kerrorAddressString, kPrefix, kBytesResult, kboundsError, kAttrs, kUpdate, kMessage] at *); omega) (by omega) (by (try simp only [bigp, bigi, bigb, bigu, bigs, kerrorAddressString, kPrefix, kBytesResult, kboundsError, kAttrs, kUpdate, kMessage] at *); omega)
  refine ⟨m0, b0_0, b0_1, b0_2, ?_, by omega, (by (try simp only [bigp, bigi, bigb, bigu, bigs, kerrorAddressString, kPrefix, kBytesResult, kboundsError, kAttrs, kUpdate, kMessage] at *); omega), g0_0, g0_1, g0_2⟩
  · unfold laws_markMessage.F
    simp only [e0, Option.bind_some]
theorem laws_markByteS.tot (k : Nat) (x : List Int) (l : Int) (hb : K.big (.sl (.int .u8)) x ≤ 4294967296) (hk : K.big (.sl (.int .u8)) x < k) (h0 : 0 ≤ l) (h1 : l + 64 * (K.big (.sl (.int .u8)) x : Int) ≤ 1125899906842624) : ∃ (m : Int) (b0 : List Int), laws_markByteS.F k (x, l, ()) = some ((m, ()), (b0, ())) ∧ l ≤ m ∧ m ≤ l + 64 * (K.big (.sl (.int .u8)) x : Int) ∧ laws_heldByteS.F k (b0, l, ()) = some ((m, ()), ()) ∧ K.big (.sl (.int .u8)) b0 = K.big (.sl (.int .u8)) x := by
  have hl : x.length ≤ K.big (.sl (.int .u8)) x := big_len (e := (.int .u8)) x
  have hbig := big_int .u8 x
  let ys := upto (IntKind.wrap .u8) l x.length
  have hys : ys.length = x.length := upto_len _ _ _
  have hget : ∀ i, i < x.length → ys[i]? = some (IntKind.wrap .u8 (l + i)) := fun i hi => upto_get _ _ _ i hi
  refine ⟨l + x.length, ys, ?_, by omega, by omega, ?_, by rw [big_int, big_int, hys]⟩
  · unfold laws_markByteS.F
    refine loop_inv (len := x.length) (fun n i (s : Int × List Int) => laws_markByteS.l2 k _ n s.1 i s.2) (fun i s => s.1 = l + i ∧ s.2.length = ys.length ∧ ∀ j, j < i → s.2[j]? = ys[j]?) _ ?_ ?_ k 0 (l, x) (Nat.zero_le _) ⟨by simp, hys.symm, fun j h => by omega⟩ (by omega)
    · rintro n ⟨s, t⟩ ⟨rfl, h1, h2⟩
      simp only at h1 h2
      simp only [laws_markByteS.l2, h1, hys, lt_dec_f, cond_false]
      rw [all_eq h1 (by rw [hys]; exact h2)]
    · rintro n i ⟨s, t⟩ hi ⟨rfl, h1, h2⟩
      simp only at h1 h2
      refine ⟨(l + ((i + 1 : Nat) : Int), t.set i (IntKind.wrap .u8 (l + i))), ?_, rfl, set_keep h1 (by omega) h2 (hget i hi)⟩
      simp only [laws_markByteS.l2, h1, hys, lt_dec hi, inBn hi, cond_true, share_eq, Int.toNat_natCast]
      rw [next_i (by omega), next_k h0 (by omega) (by omega)]
  · unfold laws_heldByteS.F
    refine loop_inv (len := x.length) (fun n i (s : Int) => laws_heldByteS.l2 k _ _ n ys s i) (fun i s => s = l + i) _ ?_ ?_ k 0 l (Nat.zero_le _) (by simp) (by omega)
    · rintro n s rfl
      simp only [laws_heldByteS.l2, hys, lt_dec_f, cond_false]
    · rintro n i s hi rfl
      refine ⟨l + ((i + 1 : Nat) : Int), ?_, rfl⟩
      have hg : ys.getD i 0 = IntKind.wrap .u8 (l + i) := by rw [List.getD_eq_getElem?_getD, hget i hi]; rfl
      simp only [laws_heldByteS.l2, hys, lt_dec hi, inBn hi, cond_true, share_eq, Int.toNat_natCast, hg, bne_self_eq_false, cond_false]
      rw [next_i (by omega), next_k h0 (by omega) (by omega)]
theorem laws_markBytesResult.tot (k : Nat) (x : (Int × (List Int × Unit))) (l : Int) (hb : K.big kBytesResult x ≤ 4294967296) (hk : K.big kBytesResult x < k) (h0 : 0 ≤ l) (h1 : l + 64 * (K.big kBytesResult x : Int) ≤ 1125899906842624) : ∃ (m : Int) (b0 : List Int), laws_markBytesResult.F k (x, l, ()) = some ((m, ()), ((x.1, (b0, ())), ())) ∧ l ≤ m ∧ m ≤ l + 64 * (K.big kBytesResult x : Int) ∧ laws_heldBytesResult.F k ((x.1, (b0, ())), l, ()) = some ((m, ()), ()) ∧ K.big (.sl (.int .u8)) b0 = K.big (.sl (.int .u8)) x.2.1 := by
  obtain ⟨m0, b0_0, e0, l0, u0, d0, g0_0⟩ := laws_markByteS.tot k x.2.1 l (by (try simp only [bigp, bigi, bigb, bigu, bigs, kerrorAddressString, kPrefix, kBytesResult, kboundsError, kAttrs, kUpdate, kMessage] at *); omega) (by (try simp only [bigp, bigi, bigb, bigu, bigs, kerrorAddressString, kPrefix, kBytesResult, kboundsError, kAttrs, kUpdate, kMessage] at *); omega) (by omega) (by (try simp only [bigp, bigi, bigb, bigu, bigs, kerrorAddressString, kPrefix, kBytesResult, kboundsError, kAttrs, kUpdate, kMessage] at *); omega)
  refine ⟨m0, b0_0, ?_, by omega, (by (try simp only [bigp, bigi, bigb, bigu, bigs, kerrorAddressString, kPrefix, kBytesResult, kboundsError, kAttrs, kUpdate, kMessage] at *); omega), ?_, g0_0⟩
  · unfold laws_markBytesResult.F
    simp only [e0, Option.bind_some]
  · unfold laws_heldBytesResult.F
    simp only [d0, Option.bind_some]
    (try rw [decide_eq_false (by omega), cond_false])
end Go.Proofs.Ytopldlbnnnmpbaa
/- What the lower functions compute, in plain words. -/
set_option linter.unusedVariables false
set_option linter.unusedSimpArgs false
namespace Go.Proofs.Ytopldlbnnnmpbaa
open Go Go.Dn
theorem cond_some {α : Type} (b : Bool) (x y : α) : (bif b then some x else some y) = some (bif b then x else y) := by cases b <;> rfl
theorem cond_pair {α β : Type} (b : Bool) (x y : α) (u v : β) : (bif b then (x, u) else (y, v)) = (bif b then x else y, bif b then u else v) := by cases b <;> rfl
theorem cond_same {α : Type} (b : Bool) (x : α) : (bif b then x else x) = x := by cases b <;> rfl

def inR (x lo hi : Int) : Bool := decide (lo ≤ x) && decide (x ≤ hi)
theorem inR_iff {x lo hi : Int} : inR x lo hi = true ↔ lo ≤ x ∧ x ≤ hi := by simp [inR]
theorem in_form (x lo hi : Int) : (bif decide (x ≥ lo) then some ((decide (x ≤ hi), ()), ()) else some ((false, ()), ())) = some ((inR x lo hi, ()), ()) := by
  unfold inR
  by_cases h : lo ≤ x <;> simp [h]
theorem impl_in.eq (k : Nat) (x : Int × Int × Int × Unit) : impl_in.F k x = some ((inR x.1 x.2.1 x.2.2.1, ()), ()) := in_form _ _ _
theorem spec_l1In.eq (k : Nat) (x : Int × Int × Int × Unit) : spec_l1In.F k x = some ((inR x.1 x.2.1 x.2.2.1, ()), ()) := in_form _ _ _
theorem impl_isAddr.eq (k : Nat) (x : Int × Unit) : impl_isAddr.F k x = some ((inR x.1 0 65535, ()), ()) := by
  unfold impl_isAddr.F; rw [impl_in.eq]; rfl
theorem spec_l2Addr.eq (k : Nat) (x : Int × Unit) : spec_l2Addr.F k x = some ((inR x.1 0 65535, ()), ()) := by
  unfold spec_l2Addr.F; rw [spec_l1In.eq]; rfl

/-! ### Prefixes -/
def rest (n : Int) : Int := IntKind.wrap .i64 (shlV .i64 1 (16 - n) - 1)
def prefixFault (x : Int × Int × Unit) : Int :=
  bif !inR x.1 0 65535 then 3 else bif !inR x.2.1 0 16 then 3 else bif andV .i64 x.1 (rest x.2.1) != 0 then 1 else 0
theorem impl_PrefixFault.eq (k : Nat) (x : (Int × Int × Unit) × Unit) : impl_PrefixFault.F k x = some ((prefixFault x.1, ()), ()) := by
  unfold impl_PrefixFault.F prefixFault
  rw [impl_isAddr.eq, impl_in.eq]
  simp only [Option.bind_some]
  cases h1 : inR x.1.1 0 65535
  · rfl
  · cases h2 : inR x.1.2.1 0 16
    · rfl
    · have h3 := inR_iff.1 h2
      simp only [Bool.not_true, cond_false]
      rw [w64 (n := 16 - x.1.2.1) (by omega) (by omega), decide_eq_false (by omega), cond_false, cond_some, cond_pair, cond_pair]
      rfl
theorem spec_l2Rest.eq (k : Nat) (x : Int × Unit) (h : 0 ≤ x.1 ∧ x.1 ≤ 16) : spec_l2Rest.F k x = some ((rest x.1, ()), ()) := by
  unfold spec_l2Rest.F rest
  rw [w64 (n := 16 - x.1) (by omega) (by omega), wu64 (by omega) (by omega), decide_eq_false (by omega), cond_false]
theorem spec_PrefixFault.eq (k : Nat) (x : (Int × Int × Unit) × Unit) : spec_PrefixFault.F k x = some ((prefixFault x.1, ()), ()) := by
  unfold spec_PrefixFault.F prefixFault
  rw [spec_l2Addr.eq, spec_l1In.eq]
  simp only [Option.bind_some]
  cases h1 : inR x.1.1 0 65535
  · rfl
  · cases h2 : inR x.1.2.1 0 16
    · rfl
    · simp only [Bool.not_true, cond_false]
      rw [spec_l2Rest.eq k _ (inR_iff.1 h2)]
      simp only [Option.bind_some]
      rw [cond_some, cond_pair, cond_pair, cond_same]
def listFault : List (Int × Int × Unit) → Int
  | [] => 0
  | x :: r => bif prefixFault x != 0 then prefixFault x else listFault r
theorem listFault_app (a b : List (Int × Int × Unit)) : listFault (a ++ b) = bif listFault a != 0 then listFault a else listFault b := by
  induction a with
  | nil => rfl
  | cons x a ih =>
    simp only [List.cons_append, listFault, ih]
    cases h : prefixFault x != 0 <;> simp [h]
theorem drop_step {α : Type} {l : List α} {i : Nat} (h : i < l.length) : l.drop i = l[i] :: l.drop (i + 1) := List.drop_eq_getElem_cons h
theorem impl_prefixesFault.eq (k : Nat) (x : List (Int × Int × Unit) × Unit) (hb : x.1.length ≤ 4294967296) (hk : x.1.length < k) : impl_prefixesFault.F k x = some ((listFault x.1, ()), ()) := by
  obtain ⟨x, _⟩ := x
  simp only at hb hk ⊢
  unfold impl_prefixesFault.F
  refine loop_up (len := x.length) (fun n i (_ : Unit) => impl_prefixesFault.l2 k _ _ n x x.length i) (fun _ _ => True) (fun i _ => some ((listFault (x.drop i), ()), ())) ?_ ?_ k 0 () (Nat.zero_le _) trivial (by omega)
  · rintro n s -
    simp only [impl_prefixesFault.l2, lt_dec_f, cond_false, List.drop_length, listFault]
  · rintro n i s hi -
    simp only [impl_prefixesFault.l2, lt_dec hi, inBn hi, cond_true, share_eq, getD_get _ hi]
    rw [impl_PrefixFault.eq]
    simp only [Option.bind_some, drop_step hi, listFault]
    cases h : prefixFault x[i] != 0
    · exact .inr ⟨(), by rw [cond_false, next_i (by omega)], trivial, by simp only [cond_false]⟩
    · exact .inl (by simp only [cond_true])
theorem spec_l2List.eq (k : Nat) (x : List (Int × Int × Unit) × Unit) (hb : x.1.length ≤ 200) (hk : x.1.length < k) : spec_l2List.F k x = some ((listFault x.1, ()), ()) := by
  obtain ⟨x, _⟩ := x
  simp only at hb hk ⊢
  unfold spec_l2List.F
  rw [decide_eq_false (by simp only; omega), cond_false]
  refine loop_up (len := x.length) (fun n i (_ : Unit) => spec_l2List.l4 k _ _ n x i) (fun _ _ => True) (fun i _ => some ((listFault (x.drop i), ()), ())) ?_ ?_ k 0 () (Nat.zero_le _) trivial (by omega)
  · rintro n s -
    simp only [spec_l2List.l4, lt_dec_f, cond_false, List.drop_length, listFault]
  · rintro n i s hi -
    simp only [spec_l2List.l4, lt_dec hi, inBn hi, cond_true, share_eq, getD_get _ hi]
    rw [spec_PrefixFault.eq]
    simp only [Option.bind_some, drop_step hi, listFault]
    cases h : prefixFault x[i] != 0
    · exact .inr ⟨(), by rw [cond_false, next_i (by omega)], trivial, by simp only [cond_false]⟩
    · exact .inl (by simp only [cond_true])

/-! ### Attributes -/
theorem impl_isSystem.eq (k : Nat) (x : Int × Unit) : impl_isSystem.F k x = some ((inR x.1 1 65535, ()), ()) := by
  unfold impl_isSystem.F; rw [impl_in.eq]; rfl
theorem impl_isTwo.eq (k : Nat) (x : Int × Unit) : impl_isTwo.F k x = some ((inR x.1 0 65535, ()), ()) := by
  unfold impl_isTwo.F; rw [impl_in.eq]; rfl
theorem spec_l3Word.eq (k : Nat) (x : Int × Unit) : spec_l3Word.F k x = some ((inR x.1 0 65535, ()), ()) := by
  unfold spec_l3Word.F; rw [spec_l1In.eq]; rfl
theorem impl_AttrsFault_1.eq (k : Nat) (x : Int × Unit) : impl_AttrsFault_1.F k x = some ((!inR x.1 1 65535, ()), ()) := by
  unfold impl_AttrsFault_1.F; rw [impl_isSystem.eq]; rfl
/-- Where the first is of which f says true; -1: nowhere. -/
def findI {α : Type} (f : α → Bool) : List α → Int → Int
  | [], _ => -1
  | x :: r, i => bif f x then i else findI f r (i + 1)
theorem findI_ge {α : Type} (f : α → Bool) : ∀ (l : List α) (i : Int), 0 ≤ i → decide (findI f l i ≥ 0) = l.any f
  | [], i, _ => rfl
  | x :: r, i, h => by
    cases hx : f x with
    | true => simp [findI, hx, h]
    | false =>
      have := findI_ge f r (i + 1) (by omega)
      simp only [findI, hx, cond_false, List.any_cons, Bool.false_or]
      exact this
theorem slices_IndexFunc_int64_int64.eq (k : Nat) (x : List Int × ((Int × Unit) → Option Bool) × Unit) (f : Int → Bool) (hf : ∀ a, x.2.1 a = some (f a.1)) (hb : x.1.length ≤ 4294967296) (hk : x.1.length < k) :
    slices_IndexFunc_int64_int64.F k x = some ((findI f x.1 0, ()), ()) := by
  obtain ⟨x, g, _⟩ := x
  simp only at hb hk hf ⊢
  unfold slices_IndexFunc_int64_int64.F
  refine loop_up (len := x.length) (fun n i (_ : Unit) => slices_IndexFunc_int64_int64.l2 k _ _ n x g x.length i) (fun _ _ => True) (fun i _ => some ((findI f (x.drop i) i, ()), ())) ?_ ?_ k 0 () (Nat.zero_le _) trivial (by omega)
  · rintro n s -
    simp only [slices_IndexFunc_int64_int64.l2, lt_dec_f, cond_false, List.drop_length, findI]
  · rintro n i s hi -
    simp only [slices_IndexFunc_int64_int64.l2, lt_dec hi, inBn hi, cond_true, share_eq, getD_get _ hi, hf, Option.bind_some, drop_step hi, findI]
    cases h : f x[i]
    · exact .inr ⟨(), by rw [cond_false, next_i (by omega)], trivial, by simp only [cond_false]; rfl⟩
    · exact .inl (by simp only [cond_true])
theorem slices_ContainsFunc_int64_int64.eq (k : Nat) (x : List Int × ((Int × Unit) → Option Bool) × Unit) (f : Int → Bool) (hf : ∀ a, x.2.1 a = some (f a.1)) (hb : x.1.length ≤ 4294967296) (hk : x.1.length < k) :
    slices_ContainsFunc_int64_int64.F k x = some ((x.1.any f, ()), ()) := by
  unfold slices_ContainsFunc_int64_int64.F
  rw [slices_IndexFunc_int64_int64.eq k x f hf hb hk]
  simp only [Option.bind_some, findI_ge f x.1 0 (Int.le_refl _)]
def attrsFault (x : Int × List Int × Int × Int × Int × Unit) : Int :=
  bif !inR x.1 0 2 then 3 else bif !inR x.2.2.1 0 65535 then 3 else bif !inR x.2.2.2.1 0 65535 then 3 else bif !inR x.2.2.2.2.1 0 65535 then 3 else
  bif decide ((x.2.1.length : Int) > 6) then 2 else bif x.2.1.any fun a => !inR a 1 65535 then 3 else 0
theorem impl_AttrsFault.eq (k : Nat) (x : (Int × List Int × Int × Int × Int × Unit) × Unit) (hb : x.1.2.1.length ≤ 4294967296) (hk : x.1.2.1.length < k) : impl_AttrsFault.F k x = some ((attrsFault x.1, ()), ()) := by
  unfold impl_AttrsFault.F attrsFault
  rw [impl_in.eq, impl_isAddr.eq, impl_isTwo.eq, impl_isTwo.eq, slices_ContainsFunc_int64_int64.eq k _ (fun a => !inR a 1 65535) (fun a => by simp only [impl_AttrsFault_1.eq, Option.bind_some]) hb hk]
  simp only [Option.bind_some, cond_some, cond_pair, cond_same]
theorem spec_AttrsFault.eq (k : Nat) (x : (Int × List Int × Int × Int × Int × Unit) × Unit) (hb : x.1.2.1.length ≤ 4294967296) (hk : x.1.2.1.length < k) : spec_AttrsFault.F k x = some ((attrsFault x.1, ()), ()) := by
  obtain ⟨⟨o, p, n, m, l, _⟩, _⟩ := x
  simp only at hb hk ⊢
  unfold spec_AttrsFault.F attrsFault
  rw [spec_l1In.eq, spec_l3Word.eq, spec_l3Word.eq, spec_l3Word.eq]
  simp only [Option.bind_some]
  have hloop : spec_AttrsFault.l6 k (fun e6 => some (e6, ())) (fun e7 => some (((0 : Int), ()), ())) k (0 : Int) o p n m l = some (((bif p.any fun a => !inR a 1 65535 then 3 else 0 : Int), ()), ()) := by
    refine loop_up (len := p.length) (fun q i (_ : Unit) => spec_AttrsFault.l6 k _ _ q i o p n m l) (fun _ _ => True) (fun i _ => some (((bif (p.drop i).any fun a => !inR a 1 65535 then 3 else 0 : Int), ()), ())) ?_ ?_ k 0 () (Nat.zero_le _) trivial (by omega)
    · rintro q s -
      simp only [spec_AttrsFault.l6, lt_dec_f, cond_false, List.drop_length, List.any_nil]
    · rintro q i s hi -
      simp only [spec_AttrsFault.l6, lt_dec hi, inBn hi, cond_true, share_eq, getD_get _ hi, spec_l1In.eq, Option.bind_some, drop_step hi, List.any_cons]
      cases h : inR p[i] 1 65535
      · exact .inl (by simp only [Bool.not_false, cond_true, Bool.true_or])
      · exact .inr ⟨(), by rw [Bool.not_true, cond_false, next_i (by omega)], trivial, by simp only [Bool.not_true, Bool.false_or]⟩
  rw [hloop]
  simp only [cond_some, cond_pair, cond_same]
def attrsZero (x : Int × List Int × Int × Int × Int × Unit) : Bool :=
  (x.1 == 0) && ((x.2.1.length : Int) == 0) && (x.2.2.1 == 0) && (x.2.2.2.1 == 0) && (x.2.2.2.2.1 == 0)
theorem impl_Attrs_isZero.eq (k : Nat) (x : (Int × List Int × Int × Int × Int × Unit) × Unit) : impl_Attrs_isZero.F k x = some ((attrsZero x.1, ()), ()) := by
  unfold impl_Attrs_isZero.F attrsZero
  simp only [cond_some, cond_pair, cond_same]
  cases x.1.1 == 0 <;> cases ((x.1.2.1.length : Int) == 0) <;> cases x.1.2.2.1 == 0 <;> cases x.1.2.2.2.1 == 0 <;> simp
theorem spec_l3Zero.eq (k : Nat) (x : (Int × List Int × Int × Int × Int × Unit) × Unit) : spec_l3Zero.F k x = some ((attrsZero x.1, ()), ()) := by
  unfold spec_l3Zero.F attrsZero
  simp only [cond_some, cond_pair, cond_same]
  cases x.1.1 == 0 <;> cases ((x.1.2.1.length : Int) == 0) <;> cases x.1.2.2.1 == 0 <;> cases x.1.2.2.2.1 == 0 <;> simp
end Go.Proofs.Ytopldlbnnnmpbaa
/- Updates, frames and messages in plain words. -/
set_option linter.unusedVariables false
set_option linter.unusedSimpArgs false
namespace Go.Proofs.Ytopldlbnnnmpbaa
open Go Go.Dn
/-! ### Updates -/
theorem slices_Grow_impl_Prefix_impl_Prefix.eq (k : Nat) (x : Int × Unit) (h0 : 0 ≤ x.1) (h1 : x.1 ≤ 4294967296) : slices_Grow_impl_Prefix_impl_Prefix.F k x = some (([], ()), ()) := by
  unfold slices_Grow_impl_Prefix_impl_Prefix.F
  rw [decide_eq_false (by omega), cond_false, show (0 : Int) - 0 = 0 from rfl, w64 (n := (0 : Int)) (by omega) (by omega), show x.1 - 0 = x.1 by omega, w64 (n := x.1) (by omega) (by omega)]
  by_cases h : x.1 > 0
  · rw [decide_eq_true h, cond_true, decide_eq_true h0, cond_true, roomy_le 4294967296 (by simp; omega) (by decide), cond_true, share_eq]
    rfl
  · rw [decide_eq_false h, cond_false]
theorem slices_Concat_two (k : Nat) (a b : List (Int × Int × Unit)) (ha : a.length ≤ 1048576) (hb : b.length ≤ 1048576) (hk : 3 < k) : slices_Concat_impl_Prefix_impl_Prefix.F k ([a, b], ()) = some ((a ++ b, ()), ()) := by
  obtain ⟨k, rfl⟩ : ∃ m, k = m + 3 := ⟨k - 3, by omega⟩
  unfold slices_Concat_impl_Prefix_impl_Prefix.F
  have i1 : inB (0 : Int) (([a, b] : List (List (Int × Int × Unit))).length : Int) = true := by simp [inB]
  have i2 : inB (1 : Int) (([a, b] : List (List (Int × Int × Unit))).length : Int) = true := by simp [inB]
  have d1 : decide ((0 : Int) < (([a, b] : List (List (Int × Int × Unit))).length : Int)) = true := by simp
  have d2 : decide ((1 : Int) < (([a, b] : List (List (Int × Int × Unit))).length : Int)) = true := by simp
  have d3 : decide ((2 : Int) < (([a, b] : List (List (Int × Int × Unit))).length : Int)) = false := by simp
  have w1 : IntKind.wrap .i64 ((0 : Int) + 1) = 1 := w64 (by omega) (by omega)
  have w2 : IntKind.wrap .i64 ((1 : Int) + 1) = 2 := w64 (by omega) (by omega)
  have g1 : ([a, b] : List (List (Int × Int × Unit))).getD (Int.toNat 0) [] = a := rfl
  have g2 : ([a, b] : List (List (Int × Int × Unit))).getD (Int.toNat 1) [] = b := rfl
  simp only [slices_Concat_impl_Prefix_impl_Prefix.l3, d1, d2, d3, i1, i2, w1, w2, g1, g2, cond_true, cond_false, share_eq]
  rw [show (0 : Int) + (a.length : Int) = (a.length : Int) by omega, w64 (n := (a.length : Int)) (by omega) (by omega), w64 (n := (a.length : Int) + (b.length : Int)) (by omega) (by omega), decide_eq_false (by omega), decide_eq_false (by omega)]
  simp only [cond_false]
  rw [slices_Grow_impl_Prefix_impl_Prefix.eq _ _ (by simp only; omega) (by simp only; omega)]
  simp only [Option.bind_some, slices_Concat_impl_Prefix_impl_Prefix.l11, d1, d2, d3, i1, i2, w1, w2, g1, g2, cond_true, cond_false, share_eq]
  rw [roomy_le 4294967296 (by simp; omega) (by decide), cond_true, roomy_le 4294967296 (by simp; omega) (by decide), cond_true]
  rfl
abbrev TAttrs : Type := Int × List Int × Int × Int × Int × Unit
abbrev TPrefix : Type := Int × Int × Unit
abbrev TUpdate : Type := List TPrefix × Bool × TAttrs × List TPrefix × Unit
def updateFault (u : TUpdate) : Int :=
  bif decide ((u.1.length : Int) > 8) then 2 else bif decide ((u.2.2.2.1.length : Int) > 8) then 2 else
  bif listFault (u.1 ++ u.2.2.2.1) != 0 then listFault (u.1 ++ u.2.2.2.1) else
  bif !u.2.1 then (bif decide ((u.2.2.2.1.length : Int) > 0) then 1 else bif !attrsZero u.2.2.1 then 1 else 0)
  else bif (u.2.2.2.1.length : Int) == 0 then 1 else attrsFault u.2.2.1
theorem impl_UpdateFault.eq (k : Nat) (x : TUpdate × Unit) (hb : x.1.2.2.1.2.1.length ≤ 4294967296) (hk : x.1.2.2.1.2.1.length < k) (hk2 : 20 < k) : impl_UpdateFault.F k x = some ((updateFault x.1, ()), ()) := by
  obtain ⟨⟨g, h, a, r, _⟩, _⟩ := x
  simp only at hb hk
  unfold impl_UpdateFault.F updateFault
  simp only
  by_cases h1 : (g.length : Int) > 8
  · rw [decide_eq_true h1]; rfl
  by_cases h2 : (r.length : Int) > 8
  · rw [decide_eq_false h1, decide_eq_true h2]; rfl
  rw [decide_eq_false h1, decide_eq_false h2, slices_Concat_two k g r (by omega) (by omega) (by omega)]
  simp only [Option.bind_some, cond_false]
  rw [impl_prefixesFault.eq k _ (by simp; omega) (by simp; omega)]
  simp only [Option.bind_some]
  rw [impl_Attrs_isZero.eq, impl_AttrsFault.eq k _ hb hk]
  simp only [Option.bind_some]
  cases h <;> simp only [Bool.not_true, Bool.not_false, cond_true, cond_false, cond_some, cond_pair, cond_same]
theorem spec_UpdateFault.eq (k : Nat) (x : TUpdate × Unit) (hb : x.1.2.2.1.2.1.length ≤ 4294967296) (hk : x.1.2.2.1.2.1.length < k) (hk2 : 20 < k) : spec_UpdateFault.F k x = some ((updateFault x.1, ()), ()) := by
  obtain ⟨⟨g, h, a, r, _⟩, _⟩ := x
  simp only at hb hk
  unfold spec_UpdateFault.F updateFault
  simp only
  by_cases h1 : (g.length : Int) > 8
  · rw [decide_eq_true h1]; rfl
  by_cases h2 : (r.length : Int) > 8
  · rw [decide_eq_false h1, decide_eq_true h2]; rfl
  rw [decide_eq_false h1, decide_eq_false h2, spec_l2List.eq k _ (by simp only; omega) (by simp only; omega), spec_l2List.eq k _ (by simp only; omega) (by simp only; omega)]
  simp only [Option.bind_some, cond_false]
  rw [spec_l3Zero.eq, spec_AttrsFault.eq k _ hb hk, listFault_app]
  simp only [Option.bind_some]
  cases hg : listFault g != 0
  · cases h <;> simp only [Bool.not_true, Bool.not_false, cond_true, cond_false, cond_some, cond_pair, cond_same]
  · simp only [cond_true, hg]
/-- Nothing in it. -/
def updZero (u : TUpdate) : Bool := ((u.1.length : Int) == 0) && !u.2.1 && attrsZero u.2.2.1 && ((u.2.2.2.1.length : Int) == 0)
theorem impl_Update_isZero.eq (k : Nat) (x : TUpdate × Unit) : impl_Update_isZero.F k x = some ((updZero x.1, ()), ()) := by
  unfold impl_Update_isZero.F updZero
  rw [impl_Attrs_isZero.eq]
  simp only [Option.bind_some, cond_some, cond_pair, cond_same]
  cases ((x.1.1.length : Int) == 0) <;> cases x.1.2.1 <;> cases attrsZero x.1.2.2.1 <;> simp
theorem spec_l4Zero.eq (k : Nat) (x : TUpdate × Unit) : spec_l4Zero.F k x = some ((updZero x.1, ()), ()) := by
  unfold spec_l4Zero.F updZero
  rw [spec_l3Zero.eq]
  simp only [Option.bind_some, cond_some, cond_pair, cond_same]
  cases ((x.1.1.length : Int) == 0) <;> cases ((x.1.2.2.2.1.length : Int) == 0) <;> cases x.1.2.1 <;> cases attrsZero x.1.2.2.1 <;> simp
theorem zero_fault (u : TUpdate) (h : updZero u = true) : updateFault u = 0 := by
  obtain ⟨g, h', a, r, _⟩ := u
  simp only [updZero, Bool.and_eq_true, beq_iff_eq, Bool.not_eq_true'] at h
  obtain ⟨⟨⟨h1, h2⟩, h3⟩, h4⟩ := h
  have e1 : g = [] := List.length_eq_zero_iff.1 (by omega)
  have e2 : r = [] := List.length_eq_zero_iff.1 (by omega)
  subst e1; subst e2; subst h2
  simp [updateFault, listFault, h3]

/-! ### Messages -/
abbrev TMessage : Type := Int × Int × Int × Int × Int × Int × TUpdate × Unit
def isHold (n : Int) : Bool := bif n == 0 then true else inR n 3 200
theorem impl_isHold.eq (k : Nat) (x : Int × Unit) : impl_isHold.F k x = some ((isHold x.1, ()), ()) := by
  unfold impl_isHold.F isHold; rw [impl_in.eq]; simp only [Option.bind_some, cond_some, cond_pair, cond_same]
theorem spec_l4Hold.eq (k : Nat) (x : Int × Unit) : spec_l4Hold.F k x = some ((isHold x.1, ()), ()) := by
  unfold spec_l4Hold.F isHold; rw [spec_l1In.eq]; simp only [Option.bind_some, cond_some, cond_pair, cond_same]
theorem impl_areReasons.eq (k : Nat) (x : Int × Int × Unit) : impl_areReasons.F k x = some ((inR x.1 1 6 && inR x.2.1 0 20, ()), ()) := by
  unfold impl_areReasons.F; rw [impl_in.eq, impl_in.eq]; simp only [Option.bind_some, cond_some, cond_pair, cond_same]
  cases inR x.1 1 6 <;> rfl
def messageFault (x : TMessage) : Int :=
  bif !inR x.1 1 4 then 1 else
  bif x.1 == 1 then (bif !inR x.2.1 1 65535 then 3 else bif !isHold x.2.2.1 then 3 else bif !inR x.2.2.2.1 1 65535 then 3 else
    bif x.2.2.2.2.1 != 0 then 1 else bif x.2.2.2.2.2.1 != 0 then 1 else bif !updZero x.2.2.2.2.2.2.1 then 1 else 0)
  else bif x.1 == 3 then (bif !inR x.2.2.2.2.1 1 6 then 3 else bif !inR x.2.2.2.2.2.1 0 20 then 3 else
    bif x.2.1 != 0 then 1 else bif x.2.2.1 != 0 then 1 else bif x.2.2.2.1 != 0 then 1 else bif !updZero x.2.2.2.2.2.2.1 then 1 else 0)
  else bif x.2.1 != 0 then 1 else bif x.2.2.1 != 0 then 1 else bif x.2.2.2.1 != 0 then 1 else bif x.2.2.2.2.1 != 0 then 1 else bif x.2.2.2.2.2.1 != 0 then 1 else
  bif x.1 == 2 then updateFault x.2.2.2.2.2.2.1 else bif !updZero x.2.2.2.2.2.2.1 then 1 else 0
theorem impl_MessageFault.eq (k : Nat) (x : TMessage × Unit) (hb : x.1.2.2.2.2.2.2.1.2.2.1.2.1.length ≤ 4294967296) (hk : x.1.2.2.2.2.2.2.1.2.2.1.2.1.length < k) (hk2 : 20 < k) : impl_MessageFault.F k x = some ((messageFault x.1, ()), ()) := by
  obtain ⟨⟨t, s, h, i, y, z, u, _⟩, _⟩ := x
  simp only at hb hk
  unfold impl_MessageFault.F messageFault
  simp only [impl_in.eq, impl_isSystem.eq, impl_isHold.eq, impl_areReasons.eq, impl_Update_isZero.eq, impl_UpdateFault.eq k (u, ()) hb hk hk2, Option.bind_some]
  have hz := zero_fault u
  cases hin : inR t 1 4
  · rfl
  simp only [Bool.not_true, cond_false]
  by_cases t1 : t = 1
  · subst t1
    simp only [BEq.rfl, cond_true, show ((1 : Int) == 3) = false from rfl, show ((1 : Int) != 1) = false from rfl, show ((1 : Int) != 3) = true from rfl, show ((1 : Int) != 2) = true from rfl, cond_false]
    cases hu : updZero u
    · simp only [Bool.not_false, cond_true, cond_some, cond_pair, cond_same]
    · simp only [hz hu, Bool.not_true, cond_false, cond_some, cond_pair, cond_same]
  have e1 : (t == 1) = false := by simpa using t1
  have n1 : (t != 1) = true := by simpa using t1
  by_cases t3 : t = 3
  · subst t3
    simp only [BEq.rfl, cond_true, show ((3 : Int) == 1) = false from rfl, show ((3 : Int) != 1) = true from rfl, show ((3 : Int) != 3) = false from rfl, show ((3 : Int) != 2) = true from rfl, cond_false]
    cases hu : updZero u
    · cases inR y 1 6 <;> simp only [Bool.not_false, Bool.not_true, Bool.false_and, Bool.true_and, cond_true, cond_false, cond_some, cond_pair, cond_same]
    · cases inR y 1 6 <;> simp only [hz hu, Bool.not_false, Bool.not_true, Bool.false_and, Bool.true_and, cond_true, cond_false, cond_some, cond_pair, cond_same]
  have e3 : (t == 3) = false := by simpa using t3
  have n3 : (t != 3) = true := by simpa using t3
  simp only [e1, n1, e3, n3, cond_true, cond_false]
  by_cases t2 : t = 2
  · subst t2
    simp only [BEq.rfl, cond_true, show ((2 : Int) != 2) = false from rfl, cond_false, cond_some, cond_pair, cond_same]
  have e2 : (t == 2) = false := by simpa using t2
  have n2 : (t != 2) = true := by simpa using t2
  simp only [e2, n2, cond_true, cond_false]
  cases hu : updZero u
  · simp only [Bool.not_false, cond_true, cond_some, cond_pair, cond_same]
  · simp only [hz hu, Bool.not_true, cond_false, cond_some, cond_pair, cond_same]
def bare (x : TMessage) : Bool :=
  bif x.1 == 1 then (x.2.2.2.2.1 == 0) && (x.2.2.2.2.2.1 == 0) && updZero x.2.2.2.2.2.2.1
  else bif x.1 == 3 then (x.2.1 == 0) && (x.2.2.1 == 0) && (x.2.2.2.1 == 0) && updZero x.2.2.2.2.2.2.1
  else bif x.1 == 2 then (x.2.1 == 0) && (x.2.2.1 == 0) && (x.2.2.2.1 == 0) && (x.2.2.2.2.1 == 0) && (x.2.2.2.2.2.1 == 0)
  else (x.2.1 == 0) && (x.2.2.1 == 0) && (x.2.2.2.1 == 0) && (x.2.2.2.2.1 == 0) && (x.2.2.2.2.2.1 == 0) && updZero x.2.2.2.2.2.2.1
theorem spec_l4Bare.eq (k : Nat) (x : TMessage × Unit) : spec_l4Bare.F k x = some ((bare x.1, ()), ()) := by
  obtain ⟨⟨t, s, h, i, y, z, u, _⟩, _⟩ := x
  unfold spec_l4Bare.F bare
  simp only [spec_l4Zero.eq, Option.bind_some, cond_some, cond_pair, cond_same]
  by_cases t1 : t = 1
  · subst t1
    simp only [BEq.rfl, cond_true, show ((1 : Int) == 3) = false from rfl, show ((1 : Int) == 2) = false from rfl, cond_false]
    cases s == 0 <;> cases h == 0 <;> cases y == 0 <;> cases z == 0 <;> rfl
  have e1 : (t == 1) = false := by simpa using t1
  by_cases t3 : t = 3
  · subst t3
    simp only [BEq.rfl, cond_true, show ((3 : Int) == 1) = false from rfl, show ((3 : Int) == 2) = false from rfl, cond_false]
    cases s == 0 <;> cases h == 0 <;> cases i == 0 <;> cases y == 0 <;> rfl
  have e3 : (t == 3) = false := by simpa using t3
  by_cases t2 : t = 2
  · subst t2
    simp only [BEq.rfl, cond_true, show ((2 : Int) == 1) = false from rfl, show ((2 : Int) == 3) = false from rfl, cond_false]
    cases s == 0 <;> cases h == 0 <;> cases i == 0 <;> cases y == 0 <;> cases z == 0 <;> rfl
  have e2 : (t == 2) = false := by simpa using t2
  simp only [e1, e2, e3, cond_false]
  cases s == 0 <;> cases h == 0 <;> cases i == 0 <;> cases y == 0 <;> cases z == 0 <;> rfl
theorem spec_MessageFault.eq (k : Nat) (x : TMessage × Unit) (hb : x.1.2.2.2.2.2.2.1.2.2.1.2.1.length ≤ 4294967296) (hk : x.1.2.2.2.2.2.2.1.2.2.1.2.1.length < k) (hk2 : 20 < k) : spec_MessageFault.F k x = some ((messageFault x.1, ()), ()) := by
  obtain ⟨⟨t, s, h, i, y, z, u, _⟩, _⟩ := x
  simp only at hb hk
  unfold spec_MessageFault.F messageFault
  simp only [spec_l1In.eq, spec_l4Hold.eq, spec_l4Bare.eq, spec_UpdateFault.eq k (u, ()) hb hk hk2, Option.bind_some, bare]
  cases hin : inR t 1 4
  · rfl
  simp only [Bool.not_true, cond_false]
  by_cases t1 : t = 1
  · subst t1
    simp only [BEq.rfl, cond_true, show ((1 : Int) == 3) = false from rfl, show ((1 : Int) == 2) = false from rfl, cond_false, cond_some, cond_pair, cond_same, bne]
    cases y == 0 <;> cases z == 0 <;> cases updZero u <;> rfl
  have e1 : (t == 1) = false := by simpa using t1
  by_cases t3 : t = 3
  · subst t3
    simp only [BEq.rfl, cond_true, show ((3 : Int) == 1) = false from rfl, show ((3 : Int) == 2) = false from rfl, cond_false, cond_some, cond_pair, cond_same, bne]
    cases s == 0 <;> cases h == 0 <;> cases i == 0 <;> cases updZero u <;> rfl
  have e3 : (t == 3) = false := by simpa using t3
  by_cases t2 : t = 2
  · subst t2
    simp only [BEq.rfl, cond_true, show ((2 : Int) == 1) = false from rfl, show ((2 : Int) == 3) = false from rfl, cond_false, cond_some, cond_pair, cond_same, bne]
    cases s == 0 <;> cases h == 0 <;> cases i == 0 <;> cases y == 0 <;> cases z == 0 <;> rfl
  have e2 : (t == 2) = false := by simpa using t2
  simp only [e1, e2, e3, cond_false, cond_some, cond_pair, cond_same, bne]
  cases s == 0 <;> cases h == 0 <;> cases i == 0 <;> cases y == 0 <;> cases z == 0 <;> cases updZero u <;> rfl
end Go.Proofs.Ytopldlbnnnmpbaa
/- How updates, frames and messages are packed. -/
set_option linter.unusedVariables false
set_option linter.unusedSimpArgs false
namespace Go.Proofs.Ytopldlbnnnmpbaa
open Go Go.Dn
def two (n : Int) : List Int := [IntKind.wrap .u8 (shrV .i64 n 8), IntKind.wrap .u8 n]
theorem impl_putTwo.eq (k : Nat) (x : List Int × Int × Unit) (h : x.1.length ≤ 4294967296) : impl_putTwo.F k x = some ((x.1 ++ two x.2.1, ()), ()) := by
  unfold impl_putTwo.F
  rw [roomy_le 5294967296 (by simp; omega) (by decide), cond_true]
  rfl
theorem spec_l1Bytes.two (k : Nat) (n : Int) (hk : 3 < k) : spec_l1Bytes.F k (n, 2, ()) = some ((two n, ()), ()) := by
  obtain ⟨k, rfl⟩ : ∃ m, k = m + 3 := ⟨k - 3, by omega⟩
  unfold spec_l1Bytes.F
  have w1 : IntKind.wrap .i64 ((2 : Int) - 1) = 1 := w64 (by omega) (by omega)
  have w2 : IntKind.wrap .i64 ((1 : Int) - 1) = 0 := w64 (by omega) (by omega)
  have w3 : IntKind.wrap .i64 ((0 : Int) - 1) = -1 := w64 (by omega) (by omega)
  have w4 : IntKind.wrap .u64 (IntKind.wrap .i64 ((8 : Int) * 1)) = 8 := by rw [w64 (by omega) (by omega), wu64 (by omega) (by omega)]; rfl
  have w5 : IntKind.wrap .u64 (IntKind.wrap .i64 ((8 : Int) * 0)) = 0 := by rw [w64 (by omega) (by omega), wu64 (by omega) (by omega)]; rfl
  have d1 : decide ((1 : Int) ≥ 0) = true := by decide
  have d2 : decide ((0 : Int) ≥ 0) = true := by decide
  have d3 : decide ((-1 : Int) ≥ 0) = false := by decide
  have d4 : decide ((8 : Int) < 0) = false := by decide
  have d5 : decide ((0 : Int) < 0) = false := by decide
  have s0 : shrV .i64 n 0 = n := by simp [shrV]
  simp only [w1, spec_l1Bytes.l3, w2, w3, w4, w5, d1, d2, d3, d4, d5, cond_true, cond_false, share_eq, s0]
  rw [roomy_le 100 (by simp) (by decide), cond_true, roomy_le 100 (by simp) (by decide), cond_true]
  rfl
theorem two_len (n : Int) : (two n).length = 2 := rfl
def prefixes (l : List TPrefix) : List Int := l.flatMap fun p => two p.1 ++ [IntKind.wrap .u8 p.2.1]
theorem prefixes_len (l : List TPrefix) : (prefixes l).length = 3 * l.length := by
  induction l with
  | nil => rfl
  | cons x l ih => simp only [prefixes, List.flatMap_cons, List.length_append, List.length_cons, two_len] at ih ⊢; simp at ih ⊢; omega
theorem prefixes_succ {l : List TPrefix} {i : Nat} (hi : i < l.length) : prefixes (l.take (i + 1)) = prefixes (l.take i) ++ (two l[i].1 ++ [IntKind.wrap .u8 l[i].2.1]) := by
  rw [List.take_succ_eq_append_getElem hi]
  simp only [prefixes, List.flatMap_append, List.flatMap_cons, List.flatMap_nil, List.append_nil]
theorem impl_putPrefixes.eq (k : Nat) (x : List Int × List TPrefix × Unit) (h : x.1.length ≤ 1048576) (hb : x.2.1.length ≤ 1048576) (hk : x.2.1.length < k) : impl_putPrefixes.F k x = some ((x.1 ++ prefixes x.2.1, ()), ()) := by
  obtain ⟨a, l, _⟩ := x
  simp only at h hb hk ⊢
  unfold impl_putPrefixes.F
  refine loop_inv (len := l.length) (fun n i (s : List Int) => impl_putPrefixes.l2 k _ n l l.length i s) (fun i s => s = a ++ prefixes (l.take i)) _ ?_ ?_ k 0 a (Nat.zero_le _) (by simp [prefixes]) (by omega)
  · rintro n s rfl
    simp only [impl_putPrefixes.l2, lt_dec_f, cond_false, List.take_length]
  · rintro n i s hi rfl
    have hl := prefixes_len (l.take i)
    have ht : (l.take i).length = i := by simp; omega
    refine ⟨a ++ prefixes (l.take (i + 1)), ?_, rfl⟩
    simp only [impl_putPrefixes.l2, lt_dec hi, inBn hi, cond_true, share_eq, getD_get _ hi]
    rw [impl_putTwo.eq _ _ (by simp only [List.length_append]; omega)]
    simp only [Option.bind_some]
    rw [roomy_le 4294967296 (by simp only [List.length_append, List.length_cons, List.length_nil, two_len]; omega) (by decide), cond_true, next_i (by omega), prefixes_succ hi]
    simp only [List.append_assoc]
theorem spec_l3Prefixes.eq (k : Nat) (x : List TPrefix × Unit) (hb : x.1.length ≤ 1048576) (hk : x.1.length < k) (hk2 : 3 < k) : spec_l3Prefixes.F k x = some ((prefixes x.1, ()), ()) := by
  obtain ⟨l, _⟩ := x
  simp only at hb hk ⊢
  unfold spec_l3Prefixes.F
  refine loop_inv (len := l.length) (fun n i (s : List Int) => spec_l3Prefixes.l3 k _ n l i s) (fun i s => s = prefixes (l.take i)) _ ?_ ?_ k 0 [] (Nat.zero_le _) (by simp [prefixes]) (by omega)
  · rintro n s rfl
    simp only [spec_l3Prefixes.l3, lt_dec_f, cond_false, List.take_length]
  · rintro n i s hi rfl
    have hl := prefixes_len (l.take i)
    have ht : (l.take i).length = i := by simp; omega
    refine ⟨prefixes (l.take (i + 1)), ?_, rfl⟩
    simp only [spec_l3Prefixes.l3, lt_dec hi, inBn hi, cond_true, share_eq, getD_get _ hi]
    rw [spec_l1Bytes.two _ _ hk2]
    simp only [Option.bind_some]
    rw [roomy_le 4294967296 (by simp only [two_len]; omega) (by decide), cond_true, roomy_le 4294967296 (by simp only [List.length_append, List.length_cons, List.length_nil, two_len]; omega) (by decide), cond_true, next_i (by omega), prefixes_succ hi]
    simp only [List.append_assoc]
def twos (l : List Int) : List Int := l.flatMap two
theorem twos_len (l : List Int) : (twos l).length = 2 * l.length := by
  induction l with
  | nil => rfl
  | cons x l ih => simp only [twos, List.flatMap_cons, List.length_append, List.length_cons, two_len] at ih ⊢; omega
theorem twos_succ {l : List Int} {i : Nat} (hi : i < l.length) : twos (l.take (i + 1)) = twos (l.take i) ++ two l[i] := by
  rw [List.take_succ_eq_append_getElem hi]
  simp only [twos, List.flatMap_append, List.flatMap_cons, List.flatMap_nil, List.append_nil]
def packUpd (u : TUpdate) : List Int :=
  [IntKind.wrap .u8 (u.1.length : Int)] ++ prefixes u.1 ++
  bif !u.2.1 then [] else [IntKind.wrap .u8 (u.2.2.1.2.1.length : Int)] ++ twos u.2.2.1.2.1 ++ [IntKind.wrap .u8 u.2.2.1.1] ++ two u.2.2.1.2.2.1 ++ two u.2.2.1.2.2.2.1 ++ two u.2.2.1.2.2.2.2.1 ++ prefixes u.2.2.2.1
theorem impl_packUpdate.eq (k : Nat) (x : TUpdate × Unit) (h1 : x.1.1.length ≤ 1000) (h2 : x.1.2.2.1.2.1.length ≤ 1000) (h3 : x.1.2.2.2.1.length ≤ 1000) (hk : 2000 < k) : impl_packUpdate.F k x = some ((packUpd x.1, ()), ()) := by
  obtain ⟨⟨g, h, ⟨o, p, n, m, l, _⟩, r, _⟩, _⟩ := x
  simp only at h1 h2 h3
  unfold impl_packUpdate.F packUpd
  simp only
  have lg := prefixes_len g
  have lr := prefixes_len r
  rw [impl_putPrefixes.eq _ _ (by simp) (by simp only; omega) (by simp only; omega)]
  simp only [Option.bind_some]
  cases h
  · simp
  · simp only [Bool.not_true, cond_false]
    rw [roomy_le 4294967296 (by simp only [List.length_append, List.length_cons, List.length_nil]; omega) (by decide), cond_true, share_eq]
    have hloop : ∀ (ρ : Type) (C : (List TPrefix × Bool × Int × List Int × Int × Int × Int × List TPrefix × List Int × Unit) → Option ρ) (a : List Int), a.length ≤ 10000 → impl_packUpdate.l6 k C k p (p.length : Int) 0 g true o p n m l r a = C (g, true, o, p, n, m, l, r, a ++ twos p, ()) := by
      intro ρ C a ha
      refine loop_inv (len := p.length) (fun q i (s : List Int) => impl_packUpdate.l6 k C q p p.length i g true o p n m l r s) (fun i s => s = a ++ twos (p.take i)) _ ?_ ?_ k 0 a (Nat.zero_le _) (by simp [twos]) (by omega)
      · rintro q s rfl
        simp only [impl_packUpdate.l6, lt_dec_f, cond_false, List.take_length]
      · rintro q i s hi rfl
        have hl := twos_len (p.take i)
        have ht : (p.take i).length = i := by simp; omega
        refine ⟨a ++ twos (p.take (i + 1)), ?_, rfl⟩
        simp only [impl_packUpdate.l6, lt_dec hi, inBn hi, cond_true, share_eq, getD_get _ hi]
        rw [impl_putTwo.eq _ _ (by simp only [List.length_append]; omega)]
        simp only [Option.bind_some]
        rw [next_i (by omega), twos_succ hi]
        simp only [List.append_assoc]
    have lt := twos_len p
    rw [hloop _ _ _ (by simp only [List.length_append, List.length_cons, List.length_nil]; omega)]
    rw [roomy_le 4294967296 (by simp only [List.length_append, List.length_cons, List.length_nil]; omega) (by decide), cond_true, share_eq]
    rw [impl_putTwo.eq _ _ (by simp only [List.length_append, List.length_cons, List.length_nil]; omega)]
    simp only [Option.bind_some]
    rw [impl_putTwo.eq _ _ (by simp only [List.length_append, List.length_cons, List.length_nil, two_len]; omega)]
    simp only [Option.bind_some]
    rw [impl_putTwo.eq _ _ (by simp only [List.length_append, List.length_cons, List.length_nil, two_len]; omega)]
    simp only [Option.bind_some]
    rw [impl_putPrefixes.eq _ _ (by simp only [List.length_append, List.length_cons, List.length_nil, two_len]; omega) (by simp only; omega) (by simp only; omega)]
    simp
theorem spec_l3Pack.eq (k : Nat) (x : TUpdate × Unit) (h1 : x.1.1.length ≤ 1000) (h2 : x.1.2.2.1.2.1.length ≤ 1000) (h3 : x.1.2.2.2.1.length ≤ 1000) (hk : 2000 < k) : spec_l3Pack.F k x = some ((packUpd x.1, ()), ()) := by
  obtain ⟨⟨g, h, ⟨o, p, n, m, l, _⟩, r, _⟩, _⟩ := x
  simp only at h1 h2 h3
  unfold spec_l3Pack.F packUpd
  simp only
  have lg := prefixes_len g
  have lr := prefixes_len r
  rw [spec_l3Prefixes.eq _ _ (by simp only; omega) (by simp only; omega) (by omega)]
  simp only [Option.bind_some]
  rw [roomy_le 4294967296 (by simp only [List.length_append, List.length_cons, List.length_nil]; omega) (by decide), cond_true, share_eq]
  cases h
  · simp
  · simp only [Bool.not_true, cond_false]
    rw [roomy_le 4294967296 (by simp only [List.length_append, List.length_cons, List.length_nil]; omega) (by decide), cond_true, share_eq]
    have hloop : ∀ (ρ : Type) (C : (List TPrefix × Bool × Int × List Int × Int × Int × Int × List TPrefix × List Int × Unit) → Option ρ) (a : List Int), a.length ≤ 10000 → spec_l3Pack.l6 k C k 0 g true o p n m l r a = C (g, true, o, p, n, m, l, r, a ++ twos p, ()) := by
      intro ρ C a ha
      refine loop_inv (len := p.length) (fun q i (s : List Int) => spec_l3Pack.l6 k C q i g true o p n m l r s) (fun i s => s = a ++ twos (p.take i)) _ ?_ ?_ k 0 a (Nat.zero_le _) (by simp [twos]) (by omega)
      · rintro q s rfl
        simp only [spec_l3Pack.l6, lt_dec_f, cond_false, List.take_length]
      · rintro q i s hi rfl
        have hl := twos_len (p.take i)
        have ht : (p.take i).length = i := by simp; omega
        refine ⟨a ++ twos (p.take (i + 1)), ?_, rfl⟩
        simp only [spec_l3Pack.l6, lt_dec hi, inBn hi, cond_true, share_eq, getD_get _ hi]
        rw [spec_l1Bytes.two _ _ (by omega)]
        simp only [Option.bind_some]
        rw [roomy_le 4294967296 (by simp only [List.length_append, two_len]; omega) (by decide), cond_true]
        rw [next_i (by omega), twos_succ hi]
        simp only [List.append_assoc]
    have lt := twos_len p
    rw [hloop _ _ _ (by simp only [List.length_append, List.length_cons, List.length_nil]; omega)]
    rw [roomy_le 4294967296 (by simp only [List.length_append, List.length_cons, List.length_nil]; omega) (by decide), cond_true, share_eq]
    rw [spec_l1Bytes.two _ _ (by omega)]
    simp only [Option.bind_some]
    rw [roomy_le 4294967296 (by simp only [List.length_append, List.length_cons, List.length_nil, two_len]; omega) (by decide), cond_true, share_eq]
    rw [spec_l1Bytes.two _ _ (by omega)]
    simp only [Option.bind_some]
    rw [roomy_le 4294967296 (by simp only [List.length_append, List.length_cons, List.length_nil, two_len]; omega) (by decide), cond_true, share_eq]
    rw [spec_l1Bytes.two _ _ (by omega)]
    simp only [Option.bind_some]
    rw [roomy_le 4294967296 (by simp only [List.length_append, List.length_cons, List.length_nil, two_len]; omega) (by decide), cond_true, share_eq]
    rw [spec_l3Prefixes.eq _ _ (by simp only; omega) (by simp only; omega) (by omega)]
    simp only [Option.bind_some]
    rw [roomy_le 4294967296 (by simp only [List.length_append, List.length_cons, List.length_nil, two_len]; omega) (by decide), cond_true, share_eq]
    simp
theorem packUpd_len (u : TUpdate) : (packUpd u).length ≤ 9 + 3 * u.1.length + 2 * u.2.2.1.2.1.length + 3 * u.2.2.2.1.length := by
  have h1 := prefixes_len u.1
  have h2 := prefixes_len u.2.2.2.1
  have h3 := twos_len u.2.2.1.2.1
  unfold packUpd
  cases u.2.1 <;> simp only [Bool.not_true, Bool.not_false, cond_true, cond_false, List.length_append, List.length_cons, List.length_nil, two_len] <;> omega

/-! ### Frames, messages -/
abbrev TFrame : Type := Int × List Int × Unit
def frame (f : TFrame) : List Int := [255, 255] ++ two ((f.2.1.length : Int) + 5) ++ [IntKind.wrap .u8 f.1] ++ f.2.1
theorem impl_packFrame.eq (k : Nat) (x : TFrame × Unit) (h : x.1.2.1.length ≤ 1048576) : impl_packFrame.F k x = some ((frame x.1, ()), ()) := by
  unfold impl_packFrame.F impl_size_byte.F frame
  simp only [Option.bind_some]
  rw [w64 (n := 5 + (x.1.2.1.length : Int)) (by omega) (by omega), impl_putTwo.eq _ _ (by simp)]
  simp only [Option.bind_some]
  rw [roomy_le 4294967296 (by simp [two_len]) (by decide), cond_true, share_eq, roomy_le 4294967296 (by simp only [List.length_append, List.length_cons, List.length_nil, two_len]; omega) (by decide), cond_true, share_eq, Int.add_comm]
theorem spec_l1Pack.eq (k : Nat) (x : TFrame × Unit) (h : x.1.2.1.length ≤ 1048576) (hk : 3 < k) : spec_l1Pack.F k x = some ((frame x.1, ()), ()) := by
  unfold spec_l1Pack.F frame
  rw [w64 (n := (x.1.2.1.length : Int) + 5) (by omega) (by omega), spec_l1Bytes.two _ _ hk]
  simp only [Option.bind_some]
  rw [roomy_le 4294967296 (by simp [two_len]) (by decide), cond_true, share_eq, roomy_le 4294967296 (by simp [two_len]) (by decide), cond_true, share_eq, roomy_le 4294967296 (by simp only [List.length_append, List.length_cons, List.length_nil, two_len]; omega) (by decide), cond_true, share_eq]
def frameFault (f : TFrame) : Int := bif !inR f.1 1 4 then 3 else bif decide ((f.2.1.length : Int) > 120) then 2 else 0
theorem impl_FrameFault.eq (k : Nat) (x : TFrame × Unit) : impl_FrameFault.F k x = some ((frameFault x.1, ()), ()) := by
  unfold impl_FrameFault.F frameFault
  rw [impl_in.eq]
  simp only [Option.bind_some, cond_some, cond_pair, cond_same]
def bodyOf (x : TMessage) : List Int :=
  bif x.1 == 1 then two x.2.1 ++ [IntKind.wrap .u8 x.2.2.1] ++ two x.2.2.2.1
  else bif x.1 == 3 then [IntKind.wrap .u8 x.2.2.2.2.1, IntKind.wrap .u8 x.2.2.2.2.2.1]
  else bif x.1 == 2 then packUpd x.2.2.2.2.2.2.1 else []
/-- An update that may be packed is small. -/
theorem upd_small (u : TUpdate) (h : updateFault u = 0) : u.1.length ≤ 8 ∧ u.2.2.2.1.length ≤ 8 ∧ u.2.2.1.2.1.length ≤ 6 := by
  unfold updateFault at h
  by_cases h1 : (u.1.length : Int) > 8
  · rw [decide_eq_true h1] at h; cases h
  by_cases h2 : (u.2.2.2.1.length : Int) > 8
  · rw [decide_eq_false h1, decide_eq_true h2] at h; cases h
  refine ⟨by omega, by omega, ?_⟩
  rw [decide_eq_false h1, decide_eq_false h2] at h
  simp only [cond_false] at h
  cases hl : listFault (u.1 ++ u.2.2.2.1) != 0
  · rw [hl] at h
    simp only [cond_false] at h
    cases hh : u.2.1
    · rw [hh] at h
      simp only [Bool.not_false, cond_true] at h
      cases hz : attrsZero u.2.2.1
      · rw [hz] at h
        revert h
        cases decide ((u.2.2.2.1.length : Int) > 0) <;> intro h <;> cases h
      · simp only [attrsZero, Bool.and_eq_true, beq_iff_eq] at hz
        have := hz.1.1.1.2
        omega
    · rw [hh] at h
      simp only [Bool.not_true, cond_false] at h
      cases hr : ((u.2.2.2.1.length : Int) == 0)
      · rw [hr] at h
        simp only [cond_false, attrsFault] at h
        revert h
        cases inR u.2.2.1.1 0 2 <;> cases inR u.2.2.1.2.2.1 0 65535 <;> cases inR u.2.2.1.2.2.2.1 0 65535 <;> cases inR u.2.2.1.2.2.2.2.1 0 65535 <;> simp only [Bool.not_true, Bool.not_false, cond_true, cond_false] <;> intro h <;> try (cases h; done)
        by_cases h6 : (u.2.2.1.2.1.length : Int) > 6
        · rw [decide_eq_true h6] at h; cases h
        · omega
      · rw [hr] at h; cases h
  · rw [hl] at h
    simp only [cond_true] at h
    simp [h] at hl
theorem body_small (x : TMessage) (h : messageFault x = 0) : (bodyOf x).length ≤ 120 ∧ (x.1 = 2 → x.2.2.2.2.2.2.1.1.length ≤ 8 ∧ x.2.2.2.2.2.2.1.2.2.2.1.length ≤ 8 ∧ x.2.2.2.2.2.2.1.2.2.1.2.1.length ≤ 6) ∧ inR x.1 1 4 = true := by
  obtain ⟨t, s, hd, i, y, z, u, _⟩ := x
  unfold messageFault at h
  simp only at h
  cases hin : inR t 1 4
  · rw [hin] at h; cases h
  rw [hin] at h
  have h2 : t = 2 → u.1.length ≤ 8 ∧ u.2.2.2.1.length ≤ 8 ∧ u.2.2.1.2.1.length ≤ 6 := by
    rintro rfl
    refine upd_small u ?_
    simp only [Bool.not_true, cond_false, BEq.rfl, cond_true, show ((2 : Int) == 1) = false from rfl, show ((2 : Int) == 3) = false from rfl] at h
    revert h
    cases s != 0 <;> cases hd != 0 <;> cases i != 0 <;> cases y != 0 <;> cases z != 0 <;> intro h <;> first | exact h | cases h
  refine ⟨?_, h2, rfl⟩
  unfold bodyOf
  simp only
  by_cases t1 : t = 1
  · subst t1; simp [two_len]
  have e1 : (t == 1) = false := by simpa using t1
  by_cases t3 : t = 3
  · subst t3; simp
  have e3 : (t == 3) = false := by simpa using t3
  by_cases t2 : t = 2
  · have h4 := h2 t2
    have h5 := packUpd_len u
    rw [e1, e3, t2]
    simp only [BEq.rfl, cond_true, cond_false]
    omega
  have e2 : (t == 2) = false := by simpa using t2
  rw [e1, e2, e3]
  simp
theorem impl_Message_frame.eq (k : Nat) (x : TMessage × Unit) (h : messageFault x.1 = 0) (hk : 2000 < k) : impl_Message_frame.F k x = some (((x.1.1, bodyOf x.1, ()), ()), ()) := by
  have hs := body_small x.1 h
  obtain ⟨⟨t, s, hd, i, y, z, u, _⟩, _⟩ := x
  unfold impl_Message_frame.F bodyOf
  simp only at hs ⊢
  by_cases t1 : t = 1
  · subst t1
    simp only [BEq.rfl, cond_true]
    rw [impl_putTwo.eq _ _ (by simp)]
    simp only [Option.bind_some]
    rw [roomy_le 4294967296 (by simp [two_len]) (by decide), cond_true, share_eq, impl_putTwo.eq _ _ (by simp [two_len])]
    rfl
  have e1 : (t == 1) = false := by simpa using t1
  by_cases t3 : t = 3
  · subst t3; rfl
  have e3 : (t == 3) = false := by simpa using t3
  by_cases t2 : t = 2
  · subst t2
    have h4 := hs.2.1 rfl
    simp only [e1, e3, BEq.rfl, cond_true, cond_false]
    rw [impl_packUpdate.eq k _ (by simp only; omega) (by simp only; omega) (by simp only; omega) hk]
    rfl
  have e2 : (t == 2) = false := by simpa using t2
  rw [e1, e2, e3]
  rfl
def packMsg (x : TMessage) : Int × List Int × Unit := bif messageFault x != 0 then (messageFault x, [], ()) else (0, frame (x.1, bodyOf x, ()), ())
theorem packMsg_len (x : TMessage) : (packMsg x).2.1.length ≤ 125 := by
  unfold packMsg
  by_cases h : messageFault x = 0
  · have := (body_small x h).1
    simp only [h, bne_self_eq_false, cond_false, frame, List.length_append, List.length_cons, List.length_nil, two_len]
    omega
  · have : (messageFault x != 0) = true := by simpa using h
    rw [this]
    simp
theorem impl_PackMessage.eq (k : Nat) (x : TMessage × Unit) (hb : x.1.2.2.2.2.2.2.1.2.2.1.2.1.length ≤ 4294967296) (hk : x.1.2.2.2.2.2.2.1.2.2.1.2.1.length < k) (hk2 : 2000 < k) : impl_PackMessage.F k x = some ((packMsg x.1, ()), ()) := by
  unfold impl_PackMessage.F packMsg
  rw [impl_MessageFault.eq k x hb hk (by omega)]
  simp only [Option.bind_some]
  by_cases h : messageFault x.1 = 0
  · have hs := body_small x.1 h
    simp only [h, bne_self_eq_false, cond_false]
    rw [impl_Message_frame.eq k x h hk2]
    simp only [Option.bind_some]
    unfold impl_PackFrame.F
    rw [impl_FrameFault.eq]
    have hf : frameFault (x.1.1, bodyOf x.1, ()) = 0 := by
      unfold frameFault
      rw [hs.2.2]
      simp only [Bool.not_true, cond_false]
      rw [decide_eq_false (by omega)]
      rfl
    simp only [Option.bind_some, hf, bne_self_eq_false, cond_false]
    rw [impl_packFrame.eq _ _ (by simp only; omega)]
    rfl
  · have : (messageFault x.1 != 0) = true := by simpa using h
    simp only [this, cond_true]
theorem spec_l4Pack.eq (k : Nat) (x : TMessage × Unit) (h : messageFault x.1 = 0) (hk : 2000 < k) : spec_l4Pack.F k x = some ((frame (x.1.1, bodyOf x.1, ()), ()), ()) := by
  have hs := body_small x.1 h
  obtain ⟨⟨t, s, hd, i, y, z, u, _⟩, _⟩ := x
  unfold spec_l4Pack.F
  simp only at hs ⊢
  unfold bodyOf at hs ⊢
  simp only at hs ⊢
  by_cases t1 : t = 1
  · subst t1
    simp only [BEq.rfl, cond_true] at hs ⊢
    rw [spec_l1Bytes.two _ _ (by omega), spec_l1Bytes.two _ _ (by omega)]
    simp only [Option.bind_some]
    rw [roomy_le 4294967296 (by simp [two_len]) (by decide), cond_true, share_eq, roomy_le 4294967296 (by simp [two_len]) (by decide), cond_true, share_eq, roomy_le 4294967296 (by simp [two_len]) (by decide), cond_true, share_eq, spec_l1Pack.eq _ _ (by simp [two_len]) (by omega)]
    rfl
  have e1 : (t == 1) = false := by simpa using t1
  by_cases t3 : t = 3
  · subst t3
    simp only [e1, BEq.rfl, cond_true, cond_false, share_eq]
    rw [spec_l1Pack.eq _ _ (by simp) (by omega)]
    rfl
  have e3 : (t == 3) = false := by simpa using t3
  by_cases t2 : t = 2
  · subst t2
    have h4 := hs.2.1 rfl
    simp only [e1, e3, BEq.rfl, cond_true, cond_false] at hs ⊢
    rw [spec_l3Pack.eq k _ (by simp only; omega) (by simp only; omega) (by simp only; omega) hk]
    simp only [Option.bind_some]
    rw [spec_l1Pack.eq _ _ (by simp only; omega) (by omega)]
    rfl
  have e2 : (t == 2) = false := by simpa using t2
  simp only [e1, e2, e3, cond_false]
  rw [spec_l1Pack.eq _ _ (by simp) (by omega)]
  rfl
theorem spec_PackMessage.eq (k : Nat) (x : TMessage × Unit) (hb : x.1.2.2.2.2.2.2.1.2.2.1.2.1.length ≤ 4294967296) (hk : x.1.2.2.2.2.2.2.1.2.2.1.2.1.length < k) (hk2 : 2000 < k) : spec_PackMessage.F k x = some ((packMsg x.1, ()), ()) := by
  unfold spec_PackMessage.F packMsg
  rw [spec_MessageFault.eq k x hb hk (by omega)]
  simp only [Option.bind_some]
  by_cases h : messageFault x.1 = 0
  · simp only [h, bne_self_eq_false, cond_false]
    rw [spec_l4Pack.eq k x h hk2]
    rfl
  · have : (messageFault x.1 != 0) = true := by simpa using h
    simp only [this, cond_true]
end Go.Proofs.Ytopldlbnnnmpbaa
/- SayText: the program's and the reference's answers are one, in plain words. -/
set_option linter.unusedVariables false
set_option linter.unusedSimpArgs false
namespace Go.Proofs.Ytopldlbnnnmpbaa
open Go Go.Dn
theorem impl_SayText.eq (k : Nat) (x : TMessage × Unit) (hb : x.1.2.2.2.2.2.2.1.2.2.1.2.1.length ≤ 4294967296) (hk : x.1.2.2.2.2.2.2.1.2.2.1.2.1.length < k) (hk2 : 2000 < k) : impl_SayText.F k x = some ((packMsg x.1, ()), ()) := by
  unfold impl_SayText.F
  rw [impl_PackMessage.eq k x hb hk hk2]
  rfl
theorem spec_SayText.eq (k : Nat) (x : TMessage × Unit) (hb : x.1.2.2.2.2.2.2.1.2.2.1.2.1.length ≤ 4294967296) (hk : x.1.2.2.2.2.2.2.1.2.2.1.2.1.length < k) (hk2 : 2000 < k) : spec_SayText.F k x = some ((packMsg x.1, ()), ()) := by
  unfold spec_SayText.F
  rw [spec_PackMessage.eq k x hb hk hk2]
  rfl
theorem FnExactSayTextPure (x : TMessage) (hw : kMessage.wf x) (hb : kMessage.big x ≤ 1048576) : ∃ k, laws_FnExactSayText.F k (x, ()) = some ((true, ()), ()) := by
  refine ⟨8589934592, ?_⟩
  have hp : x.2.2.2.2.2.2.1.2.2.1.2.1.length ≤ 1048576 := by
    have h1 : x.2.2.2.2.2.2.1.2.2.1.2.1.length ≤ K.big (.sl (.int .i64)) x.2.2.2.2.2.2.1.2.2.1.2.1 := big_len (e := .int .i64) _
    simp only [kMessage, kUpdate, kAttrs, kPrefix, bigp, bigi, bigb, bigu] at hb
    omega
  unfold laws_FnExactSayText.F
  obtain ⟨c, h1, h2, h3⟩ := laws_szMessage.tot 8589934592 (x, 1048576, ()) (by simp only; omega) (by simp only; omega) (by simp only; omega) (by simp only; omega)
  simp only [h1, Option.bind_some]
  by_cases hc : c < 0
  · rw [decide_eq_true hc]; rfl
  rw [decide_eq_false hc, cond_false, laws_toMessage.eq _ _ (by simp only; omega) (by simp only; omega)]
  simp only [Option.bind_some]
  rw [spec_SayText.eq _ _ (by simp only; omega) (by simp only; omega) (by omega), impl_SayText.eq _ _ (by simp only; omega) (by simp only; omega) (by omega)]
  simp only [Option.bind_some]
  have hl := packMsg_len x
  have hbig : kBytesResult.big (packMsg x) = (packMsg x).2.1.length := by
    simp only [kBytesResult, bigp, bigi, bigu, big_int]
    omega
  rw [laws_eqBytesResult.refl _ _ rfl (by simp only; omega) (by simp only; omega)]
  simp only [Option.bind_some, Bool.not_true, cond_false]
  rw [laws_eqMessage.refl _ _ rfl (by simp only; omega) (by simp only; omega)]
  simp only [Option.bind_some, Bool.not_true, cond_false]
  obtain ⟨m, b0, b1, b2, e1, l1, u1, _⟩ := laws_markMessage.tot 8589934592 x 1 (by omega) (by omega) (by omega) (by omega)
  simp only [e1, Option.bind_some]
  rw [decide_eq_false (by omega), cond_false]
  obtain ⟨m', b', e2, l2, u2, e3, g2⟩ := laws_markBytesResult.tot 8589934592 (packMsg x) 1 (by omega) (by omega) (by omega) (by omega)
  simp only [e2, Option.bind_some, e3, bne_self_eq_false, cond_false]
  rw [decide_eq_false (by omega)]
  rfl
end Go.Proofs.Ytopldlbnnnmpbaa
/- FnExactSayText: for every input of the second form's bound the law returns true and its arguments read as before. -/
namespace Go.Proofs.Ytopldlbnnnmpbaa.fnExactSayText
open Go.ChangeShapes Go.WideShapes Go.ChangeAt Go.RowKit Go.Dn
set_option linter.unusedVariables false
set_option maxRecDepth 100000
theorem own : ownKnob Try.prog.godebug = none := by kernel_rfl
theorem laidOut : laidOutB Try.prog = true := by kernel_rfl
theorem bulkOk (H : Type) : BulkOk (H := H) Rows.uptoBulk Rows.uptoBulkAll := by
  refine ⟨fun _ _ => ?_, fun _ => ?_, fun _ => ?_, ?_, fun _ _ => ?_, fun _ => ?_, ?_, fun _ _ => ?_⟩ <;> simp [Rows.uptoBulk, Rows.uptoBulkAll]
theorem contract (H : Type) (enc : TypeId × Value → H) (W : World) (base : Nat) (args : Array Value) (ds gs : List (DataW H)) (before : List MemPlace)
    (hval0 : ∀ (j : Nat) t v, Try.f3.params[j]? = some t → args[j]? = some v → Value.okWide Try.prog W .any base t v)
    (hW : DataW.Whole enc Try.prog Try.f3.params.toList Rows.fnExactSayTextSpec.vars false W args.toList ds gs before) (hk : Rows.uptoSmall H (ds ++ gs) = true) :
    Calls Try.prog 3 args W fun e W' => ∃ v, e = .returned v ∧ Rows.fnExactSayTextSpec.post enc Try.prog Try.f3 false true false false W args v W' := by
  have hval : ∀ (j : Nat) t v, Try.f3.params[j]? = some t → args[j]? = some v → Value.okWide Try.prog W .any base t v := hval0
  have hW' := hW
  obtain ⟨p, q, hA0, hV, rfl, hfz, hnd⟩ := hW
  have hA : DataW.TrodAll enc Try.prog W 0 (fun _ => true) true Try.f3.params.toList args.toList ds p := hA0
  rw [Try.params3] at hA hval
  obtain ⟨v0, vs0, d0, ds0, p0, q0, hargs, rfl, rfl, h0, r0⟩ := trodAll_cons hA
  obtain ⟨rfl, rfl, rfl⟩ := trodAll_nil r0
  obtain rfl : args = #[v0] := by cases args; simp_all
  obtain ⟨rfl, rfl⟩ := trodVars_none hV
  have hb : Rows.uptoBulkAll [d0] ≤ 1048576 := by simpa [Rows.uptoSmall] using hk
  obtain ⟨y0, us0, pk0, hh0, wf0, bg0⟩ := open_arg (bulkOk H) (κ := _) (t := 29) (tysOk0.1 29 _ rfl) (hval 0 29 v0 rfl rfl) h0
  have k0 := h0
  have lt0 : ∀ x ∈ p0, x.block < W.heap.size := by obtain ⟨m, hm⟩ := k0; exact DataW.trod_lt m _ _ _ hm
  have bi0 := (bulkOk H).le [d0] d0 (by simp)
  obtain ⟨k, hF⟩ := FnExactSayTextPure y0 wf0 (by omega)
  have hcall := law_of (laws_FnExactSayText.ok k) hF (w := W) (vs := [v0]) ⟨v0, us0, _, rfl, pk0, hh0, rfl⟩
  refine hcall.mono fun e W' ⟨he, bel⟩ => ?_
  subst he
  exact ⟨_, rfl, _, _, _, [], _, [], hW', trodAll_mk1 (shut_bool Try.underlying4 _), (trodAll_cons_mk (Below.trod laidOut (by kernel_rfl) (of_decide_eq_true (by kernel_rfl)) k0 bel lt0) trodAll_mk0), rfl, bel.frame _, fun h => by cases h⟩
theorem lifted (os : Os) (started : os.Started) (H : Type) (enc : TypeId × Value → H) (F : Stop.Interp) :
    ReturnsInHanded {} Try.checked os 3 .any ((Rows.OpenSpec.upto Rows.fnExactSayTextSpec).pre6 enc Try.prog Try.f3 Rows.fnExactSayTextUptoRow.domain false) (((Rows.OpenSpec.upto Rows.fnExactSayTextSpec).at F).post enc Try.prog Try.f3 false true false false) := by
  refine returnsInHanded_of_cond (C := Try.checked) (s := Rows.OpenSpec.upto Rows.fnExactSayTextSpec) (k := Rows.uptoSmall) rfl own started (by kernel_rfl) Try.func3
    (OpenSpec.witness (enc := enc) (C := Try.checked) (s := Rows.OpenSpec.upto Rows.fnExactSayTextSpec) (k := Rows.uptoSmall) rfl false ⟨#[], #[.agg #[.int .i64 0, .int .i64 0, .int .i64 0, .int .i64 0, .int .i64 0, .int .i64 0, .slice none 0 0, .bool false, .int .i64 0, .slice none 0 0, .int .i64 0, .int .i64 0, .int .i64 0, .slice none 0 0]], []⟩ 8 (by kernel_rfl) (by kernel_rfl) (by kernel_rfl)
      (x := ([.agg [.lit (.int .i64 0), .lit (.int .i64 0), .lit (.int .i64 0), .lit (.int .i64 0), .lit (.int .i64 0), .lit (.int .i64 0), .agg [.nil, .lit (.bool false), .agg [.lit (.int .i64 0), .nil, .lit (.int .i64 0), .lit (.int .i64 0), .lit (.int .i64 0)], .nil]]], [], [])) (by kernel_rfl) rfl (by kernel_rfl)) ?_
  intro W base args ds gs before hval hW _ hk _
  exact contract H enc W base args ds gs before hval hW hk
theorem over : Rows.fnExactSayTextUptoRow.holds Try.pinned (Rows.OpenSpec.upto Rows.fnExactSayTextSpec) :=
  OpenClaim.holds_of_cond 3 Try.f3 rfl rfl rfl rfl rfl rfl rfl ⟨rfl, rfl, rfl, rfl, rfl⟩ rfl rfl rfl rfl rfl (by kernel_rfl) Try.func3 (by kernel_rfl)
    (of_decide_eq_true (by kernel_rfl)) (by unfold Func.isWrapper; first | (rw [if_pos (by decide +kernel)]; kernel_rfl) | (rw [if_neg (by decide +kernel)]; exact ⟨rfl, rfl⟩))
    (fun os started H enc _ F => lifted os started H enc F)
theorem proved : Rows.FnExactSayTextUptoSaid := over
end Go.Proofs.Ytopldlbnnnmpbaa.fnExactSayText
namespace Go.Proofs.Ytopldlbnnnmpbaa
/-- The row, under a short name, for the claim. -/
theorem fnExactSayText_holds : Rows.FnExactSayTextUptoSaid := fnExactSayText.proved
end Go.Proofs.Ytopldlbnnnmpbaa
