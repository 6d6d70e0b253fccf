/- That both nodes of a pair have for sure what is sealed, the program's SealedRight and the reference's SealedRight tell alike, whatever pair there is. -/
import Derived.Laws.MakeOwn
import Derived.Lib.ConvBytes
import Derived.Laws.BytesString
import Derived.Laws.Tables
import Derived.Test.YtliaeahjdenlfaaGreatYtlSR20
/- The store operation; conversions; new rows. -/
set_option linter.unusedVariables false
namespace Go.Dn
theorem TyOk.pos {P : Program} : ∀ {κ : K} {t : TypeId}, TyOk P κ t → 0 < κ.n
  | .int k, t, h => Nat.one_pos
  | .bool, t, h => Nat.one_pos
  | .str, t, h => Nat.one_pos
  | .unit, t, h => h.elim
  | .pair a b, t, h => by
    obtain ⟨_, _, _, _, _, _, _, h, _⟩ := h
    simp only [K.n]; omega
  | .sl e, t, h => Nat.one_pos
section
variable {X : Cx} {β : Nat → Pl} {D : Nat → Prop} {S : Nat → CS} {Z : CS} {sl : Nat → DV} {ob : Nat → OB} {outs : List CV} {a : Act} {w : World}

theorem op_store (hr : RelAt X β D S Z sl ob outs a w) {o : Oper} {t : TypeId} {x y : Operand} (hop : o.op = .store t x y) {κ : K} (ht : TyOk X.P κ t) {c : CV} (hd : VR X β D Z w c (a.eval x)) {cs : List CV} (hall : All2 (VR X β D Z w) cs (a.eval y).cells.toList) (hl : cs.length = κ.n)
    {u : List (Nat × OB) × List Nat} (he : (storeM cs c).ev ob = some u) : Does X.P o a w (After X sl ob outs a ⟨.v false [.und], u.1, u.2⟩) := by
  have hlen := hall.len
  have fin : ∀ b off, a.eval x = .pointer (some ⟨b, off, none⟩) → (∀ i, i < (a.eval y).cells.toList.length → ∃ v, Wr w b (off + i) v) →
      (∃ S' Z', RelAt X β D S' Z' sl (updAll ob u.1) outs a (w.setCells b off (a.eval y).cells.toList)) → Does X.P o a w (After X sl ob outs a ⟨.v false [.und], u.1, u.2⟩) := fun b off hv hc ⟨S', Z', hR⟩ => by
    refine does_skip ?_ ⟨β, D, S', Z', hR, trivial⟩
    unfold execOp; rw [hop]
    have := run_storeVar' (P := X.P) (w := w) ht (b := b) (o := off) (v := a.eval y) rfl (by omega) (all2_one hall) hc
    simp [Instr.storeAt, Instr.sureAddr, hv, this]
  unfold storeM at he
  split at he
  · rename_i o' j
    obtain ⟨hD, hv⟩ := hd
    simp only [M.ev] at he
    split at he
    · rename_i cs0 ho
      cases hb : Nat.ble (j + cs.length) cs0.length with
      | false => rw [hb] at he; cases he
      | true =>
        rw [hb] at he
        cases he
        obtain ⟨h1, h2⟩ := box_store hr ho (Nat.le_of_ble_eq_true hb) hall
        exact fin _ _ hv h1 ⟨S, Z, h2⟩
    · cases he
  · rename_i o' i j
    simp only [M.ev] at he
    split at he
    · rename_i e d l ho
      obtain ⟨y', h1, h2⟩ := ev_bind_some he
      split at h2
      · rename_i hrest
        cases hc : (nodupN (o' :: y'.dead) && apartN y'.lent (o' :: y'.dead)) with
        | false => rw [hc] at h2; cases h2
        | true =>
          rw [hc] at h2
          simp only [Bool.and_eq_true] at hc
          simp only [cond_true, M.ev] at h2
          obtain ⟨u', h3, h4⟩ := ev_bind_some h2
          cases h4
          obtain ⟨b, off, h5, h6, h7⟩ := el_store hr ho hd hall (by rw [← hlen, hl]; exact ht.pos) h1 hrest hc.1 hc.2 h3
          exact fin _ _ h5 h6 h7
      · cases h2
    · cases he
  · exact (hd : False).elim
  · cases he

/-- A new row, of its own memory and what others leave it. -/
theorem arr_new (hr : RelAt X β D S Z sl ob outs a w) {e : K} {d : Bool} {l : List e.T} {us rest : List Value} {T : CS} (t : TypeId) (c : Nat) (nid : Nat) (hn : ob nid = .non) (hl : l.length ≤ c) (hus : us.length = l.length * e.n) (hcs : c * e.n ≤ (us ++ rest).length)
    (hT : HL (H Z w (bif d then .dp else .rd) e) l us T) (hTF : T.le X.F) (hTB : Bd T w) (hTZ : T.apart Z) (hTS : ∀ o, T.apart (S o)) (w' : World) (fr : Nat × Nat) (hfr : c * e.n ≤ fr.1 ∨ fr.2 ≤ fr.1)
    (ha : Agr CS.no w w') (hw : w'.heap[w.heap.size]? = some (.cells (us ++ rest).toArray t fr)) :
    After X sl ob outs a (.e2 (.v false [.arr nid]) [(nid, .arr e d false l)]) (.slice (some ⟨w.heap.size, 0, none⟩) l.length c) w' := by
  have hr' := hr.world ha
  obtain ⟨h1, h2, h3⟩ := Blk.ok hr
  have hn' : ∀ k, ¬ T w.heap.size k := fun k t => Nat.lt_irrefl _ (hTB _ _ t)
  refine ⟨upd β nid ⟨0, 0, some ⟨w.heap.size, 0, none⟩, l.length, c, e.n⟩, fun i => D i ∨ i = nid, upd S nid ((Blk w.heap.size).or T), Z, ?_, ?_⟩
  · refine hr'.new nid hn _ (.arr e d false l) (by simp) _ (CS.or_le h1 hTF) ?_ (CS.or_apart h2 hTZ) (fun o _ => CS.or_apart (h3 o) (hTS o)) ?_
    · rintro b j (h | h)
      · rw [show b = w.heap.size from h]; exact lt_of_heap hw
      · exact Nat.lt_of_lt_of_le (hTB b j h) ha.size
    · rw [OR, upd_same]
      refine ⟨rfl, rfl, .inr ⟨w.heap.size, _, t, fr, T, rfl, hl, ⟨hw, hfr⟩, by simpa using hcs, fun j => .inl rfl, CS.le_r _ _, hn', ?_⟩⟩
      have : ((us ++ rest).toArray.toList).take (l.length * e.n) = us := by rw [← hus]; simp
      rw [this]
      exact HL.imp _ _ _ (fun y v S1 hs hy => H.agr ha (fun _ _ h => h.elim) _ _ _ _ _ (fun _ _ h => h.elim) hy) hT
  · exact ⟨.inr rfl, by rw [upd_same]⟩
theorem zero_H : ∀ (κ : K) (q : Q) (T : CS), H Z w q κ κ.zero κ.zvs T
  | .int _, q, T => by simp [H, K.zero, K.zvs]
  | .bool, q, T => by simp [H, K.zero, K.zvs]
  | .str, q, T => by simp [H, K.zero, K.zvs]
  | .unit, q, T => by simp [H, K.zvs]
  | .pair a b, q, T => ⟨a.zvs, b.zvs, CS.no, CS.no, rfl, zero_H a q.l _, zero_H b q.r _, Sep.none _⟩
  | .sl e, q, T => by
    cases q <;> simp only [H, K.zero, K.zvs] <;> refine ⟨none, 0, rfl, ?_⟩ <;> first
      | exact .inl ⟨rfl, rfl⟩
      | exact ⟨Nat.le_refl _, fun h => absurd h (Nat.lt_irrefl _)⟩
theorem zvs_len (κ : K) : κ.zvs.length = κ.n := H.len (Z := CS.no) (w := default) κ .rd κ.zero κ.zvs CS.no (zero_H κ .rd CS.no)
def repV (us : List Value) : Nat → List Value
  | 0 => []
  | n + 1 => us ++ repV us n
theorem repV_len (us : List Value) : ∀ n, (repV us n).length = n * us.length
  | 0 => by simp [repV]
  | n + 1 => by simp [repV, repV_len us n, Nat.add_mul]; omega
theorem repV_get (us : List Value) (hp : 0 < us.length) : ∀ (n i : Nat), i < n * us.length → (repV us n)[i]? = us[i % us.length]?
  | 0, i, h => by simp at h
  | n + 1, i, h => by
    simp only [repV]
    rcases Nat.lt_or_ge i us.length with h1 | h1
    · rw [List.getElem?_append_left h1, Nat.mod_eq_of_lt h1]
    · rw [List.getElem?_append_right h1, repV_get us hp n (i - us.length) (by rw [Nat.add_mul] at h; omega), ← Nat.mod_eq_sub_mod h1]
theorem rep_H {e : K} {q : Q} : ∀ n, HL (H Z w q e) (List.replicate n e.zero) (repV e.zvs n) CS.no
  | 0 => rfl
  | n + 1 => ⟨e.zvs, repV e.zvs n, CS.no, CS.no, rfl, zero_H e q _, rep_H n, Sep.none _⟩
theorem zeroRow {κ : K} (hp : 0 < κ.n) (n : Nat) : ((Array.range (n * κ.n)).map (fun i => κ.zvs.toArray[i % κ.zvs.toArray.size]!)) = (repV κ.zvs n).toArray := by
  have hl := zvs_len κ
  apply Array.toList_inj.1
  apply List.ext_getElem?
  intro i
  simp only [Array.toList_map, Array.toList_range, List.getElem?_map]
  by_cases h : i < n * κ.n
  · rw [repV_get _ (by omega) _ _ (by rw [hl]; exact h)]
    have hm : i % κ.zvs.length < κ.zvs.length := Nat.mod_lt _ (by omega)
    simp only [List.getElem?_range h, Option.map_some, List.size_toArray]
    rw [List.getElem?_eq_getElem hm]
    simp [hm]
  · have h1 : (repV κ.zvs n)[i]? = none := List.getElem?_eq_none (by rw [repV_len, hl]; omega)
    have h2 : (List.range (n * κ.n))[i]? = none := List.getElem?_eq_none (by simp; omega)
    rw [h1, h2]; rfl

theorem bytes_ok {P : Program} {E : Env} (hE : TysOk P E) {t : TypeId} {b : Nat} (hb : findO E.bytes t = some b) {e : K} (ht : TyOk P (.sl e) t) :
    ∃ t' i, P.underlying t = some (.slice t') ∧ 0 < e.n ∧ TyOk P e t' ∧ P.info? t' = some i ∧ i.bytes = b ∧ i.size = e.n ∧ i.zero = some e.zv ∧ 0 < b := by
  obtain ⟨t', h1, h2, h3⟩ := ht.slice
  obtain ⟨t2, i, h4, h5, h6⟩ := (hE.2 t b hb).resolve_right fun ⟨t', h⟩ => by rw [h1] at h; cases h
  rw [h1] at h4
  cases h4
  obtain ⟨i', h7, h8, h9, h10⟩ := h3.info
  rw [h5] at h7
  cases h7
  exact ⟨t', i, h1, h2, h3, h5, h6, h8, h9, by omega⟩
theorem op_makeSlice (hr : RelAt X β D S Z sl ob outs a w) {E : Env} (hE : TysOk X.P E) {o : Oper} {t : TypeId} {x y : Operand} (hop : o.op = .makeSlice t x y) {e : K} (ht : TyOk X.P (.sl e) t) {b : Nat} (hb : findO E.bytes t = some b) {k k' : IntKind} {n c : Int}
    (hx : a.eval x = .int k n) (hy : a.eval y = .int k' c) (h0 : 0 ≤ n) (h1 : n ≤ c) (hrm : roomy c.toNat b = true) (nid : Nat) (hn : ob nid = .non) :
    Does X.P o a w (After X sl ob outs a (.e2 (.v false [.arr nid]) [(nid, .arr e true false (List.replicate n.toNat e.zero))])) := by
  obtain ⟨t', i, h2, h3, h4, h5, h6, h7, h8, h9⟩ := bytes_ok hE hb ht
  have hroom := Nat.le_of_ble_eq_true hrm
  have hc : c.toNat ≤ 140737488355328 := Nat.le_trans (Nat.le_mul_of_pos_right _ h9) hroom
  have w1 : IntKind.i64.wrap n = n := by rw [IntKind.wrap_i64]; omega
  have w2 : IntKind.i64.wrap c = c := by rw [IntKind.wrap_i64]; omega
  refine does_value (v := .slice (some ⟨w.heap.size, 0, none⟩) n.toNat c.toNat) (w' := w.alloc (.cells (repV e.zvs c.toNat).toArray t')) ?_ ?_
  · have hbig : (b : Int) * c ≤ 281474976710656 := by
      have h10 : ((c.toNat * b : Nat) : Int) ≤ ((140737488355328 : Nat) : Int) := Int.ofNat_le.2 hroom
      have h11 : ((c.toNat : Nat) : Int) = c := by omega
      rw [Int.natCast_mul, h11, Int.mul_comm] at h10
      omega
    have hrow := zeroRow h3 c.toNat
    have := run_make (P := X.P) w t t' i e.zv h2 h5 h8 k k' n c h0 h1 (by rw [h6]; omega) (by omega)
    unfold execOp; rw [hop]
    simp only [Sem.run_bind, hx, hy, this, Result.andThen_ok, Sem.run_pure, zv_cells, h7, madeCells, hrow]
  · have := arr_new hr (e := e) (d := true) (l := List.replicate n.toNat e.zero) (us := repV e.zvs n.toNat) (rest := repV e.zvs (c.toNat - n.toNat)) (T := CS.no) t' c.toNat nid hn (by simp; omega) (by simp [repV_len, zvs_len]) (by simp [repV_len, zvs_len, ← Nat.add_mul]; rw [show n.toNat + (c.toNat - n.toNat) = c.toNat by omega]; exact Nat.le_refl _)
      (rep_H _) (CS.no_le _) (fun _ _ h => h.elim) (fun _ _ h => h.elim) (fun _ _ _ h => h.elim) (w.alloc (.cells (repV e.zvs c.toNat).toArray t')) (0, 0) (.inr (Nat.le_refl _)) (Agr.alloc _ _ _) ?_
    · simpa using this
    · rw [heap_alloc_new]
      have : ∀ m n, repV e.zvs (m + n) = repV e.zvs m ++ repV e.zvs n := by
        intro m
        induction m with
        | zero => intro n; simp [repV]
        | succ m ih => intro n; rw [Nat.add_right_comm]; simp [repV, ih]
      rw [← this, show n.toNat + (c.toNat - n.toNat) = c.toNat by omega]
end
end Go.Dn
/- Conversions. -/
set_option linter.unusedVariables false
namespace Go.Dn
theorem Agr.of_old {w w' : World} (h1 : w'.os = w.os) (h2 : w'.tape = w.tape) (h3 : w'.output = w.output) (h4 : w.heap.size ≤ w'.heap.size) (h5 : ∀ b, b < w.heap.size → w'.heap[b]? = w.heap[b]?) : Agr CS.no w w' where
  os := h1
  tape := h2
  output := h3
  size := h4
  cells := fun b c ty fr hb => ⟨c, by rw [h5 b (lt_of_heap hb)]; exact hb, rfl, fun _ _ => rfl⟩
  other := fun b o hb _ => by rw [h5 b (lt_of_heap hb)]; exact hb
section
variable {X : Cx} {β : Nat → Pl} {D : Nat → Prop} {S : Nat → CS} {Z : CS} {sl : Nat → DV} {ob : Nat → OB} {outs : List CV} {a : Act} {w : World}

theorem bytes_H (k : IntKind) : ∀ (l : List Int), HL (H Z w .dp (.int k)) l (l.map (Value.int k)) CS.no
  | [] => rfl
  | x :: l => ⟨[.int k x], l.map (Value.int k), CS.no, CS.no, rfl, by simp [H], bytes_H k l, Sep.none _⟩
theorem run_conv {o : Oper} {src dst : TypeId} {x : Operand} (hop : o.op = .convert src dst x) {v : Value} {w w' : World} {P : Program} (h : (convert src dst (a.eval x)).run P w = .ok v w') : (execOp a.eval o).run P w = .ok (.value v) w' := by
  unfold execOp; rw [hop]
  simp only [Sem.run_bind, h, Result.andThen_ok, Sem.run_pure]
theorem op_conv_int (hr : RelAt X β D S Z sl ob outs a w) {o : Oper} {src dst : TypeId} {x : Operand} (hop : o.op = .convert src dst x) {k k' k2 : IntKind} (hs : TyOk X.P (.int k2) src) (hd : TyOk X.P (.int k') dst) {n : Int} (hx : a.eval x = .int k n) :
    Does X.P o a w (After X sl ob outs a (.e2 (.v false [.int k' (k'.wrap n)]) [])) := by
  refine does_value (run_conv hop ?_) (after_pure hr rfl)
  rw [hx]
  simp [convert, run_underlying hs.1, run_underlying hd.1, Conv.intToInt]
theorem op_conv_str (hr : RelAt X β D S Z sl ob outs a w) {o : Oper} {src dst : TypeId} {x : Operand} (hop : o.op = .convert src dst x) (hs : TyOk X.P .str src) (hd : TyOk X.P .str dst) {s : ByteArray} (hx : a.eval x = .string s) :
    Does X.P o a w (After X sl ob outs a (.e2 (.v false [.str s]) [])) := by
  refine does_value (v := .string s) (w' := w) (run_conv hop ?_) (after_pure hr rfl)
  rw [hx]
  simp [convert, run_underlying hs.1, run_underlying hd.1]
theorem op_conv_bytes (hr : RelAt X β D S Z sl ob outs a w) {o : Oper} {src dst : TypeId} {x : Operand} (hop : o.op = .convert src dst x) (hs : TyOk X.P .str src) (hd : TyOk X.P (.sl (.int .u8)) dst) {s : ByteArray} (hx : a.eval x = .string s) (hrm : roomy s.size 1 = true) (nid : Nat) (hn : ob nid = .non) :
    Does X.P o a w (After X sl ob outs a (.e2 (.v false [.arr nid]) [(nid, .arr (.int .u8) true false (bytesOf s))])) := by
  obtain ⟨e, h1, _, h2⟩ := hd.slice
  have hrun := Lib.run_convert_string_bytes (P := X.P) w src dst e s hs.1 h1 h2.1
  have hge : s.size ≤ grownCap w s.size 0 e := Nat.le_add_right _ _
  have hlen : (bytesOf s).length = s.size := by simp [bytesOf]
  have hcells : Lib.bytesCells w e s = ((bytesOf s).map (Value.int IntKind.u8) ++ List.replicate (grownCap w s.size 0 e - s.size) (Value.int .u8 0)).toArray := by
    apply Array.toList_inj.1
    simp [Lib.bytesCells, bytesOf]
  have hsz : (Lib.bytesCells w e s).size = grownCap w s.size 0 e := by
    rw [hcells]; simp [hlen]; omega
  refine does_value (run_conv hop (by rw [hx]; exact hrun)) ?_
  have := arr_new hr (e := K.int .u8) (d := true) (l := bytesOf s) (us := (bytesOf s).map (Value.int IntKind.u8)) (rest := List.replicate (grownCap w s.size 0 e - s.size) (Value.int .u8 0)) (T := CS.no) e (grownCap w s.size 0 e) nid hn (by omega) (by simp [K.n]) (by simp [K.n, hlen]; omega)
    (bytes_H .u8 _) (CS.no_le _) (fun _ _ h => h.elim) (fun _ _ h => h.elim) (fun _ _ _ h => h.elim) (Lib.bytesWorld w e s) ((Lib.bytesCells w e s).size, (Lib.bytesCells w e s).size + 1) (.inl (by rw [hsz]; simp [K.n]))
    (Agr.of_old ?_ ?_ ?_ (by rw [Lib.bytesWorld_size]; omega) fun b hb => Lib.bytesWorld_at_old w e s b hb) ?_
  · rwa [hlen] at this
  · simp [Lib.bytesWorld, World.freeze, World.alloc, World.drew, -World.alloc_eq, -World.drew_eq]
  · simp [Lib.bytesWorld, World.freeze, World.alloc, World.drew, -World.alloc_eq, -World.drew_eq]
  · simp [Lib.bytesWorld, World.freeze, World.alloc, World.drew, -World.alloc_eq, -World.drew_eq]
  · rw [Lib.bytesWorld_at_new, ← hcells]
theorem ints_of : ∀ (l : List Int) (us : List Value) (T : CS) (k : IntKind) (q : Q), HL (H Z w q (.int k)) l us T → us = l.map (Value.int k)
  | [], us, T, k, q, h => h
  | x :: l, us, T, k, q, ⟨u, us', S1, S2, e, h1, h2, _⟩ => by
    simp only [H] at h1
    subst h1; subst e
    simp [ints_of l us' S2 k q h2]
theorem foldl_push : ∀ (l : List Int) (d : Array UInt8), l.foldl (fun (r : ByteArray) n => r.push (UInt8.ofNat n.toNat)) ⟨d⟩ = ⟨d ++ (l.map fun n => UInt8.ofNat n.toNat).toArray⟩
  | [], d => by simp
  | n :: l, d => by
    simp only [List.foldl_cons]
    have := foldl_push l (d.push (UInt8.ofNat n.toNat))
    show List.foldl _ (⟨d.push (UInt8.ofNat n.toNat)⟩ : ByteArray) l = _
    rw [this]
    congr 1
    simp
theorem op_conv_text (hr : RelAt X β D S Z sl ob outs a w) {o : Oper} {src dst : TypeId} {x : Operand} (hop : o.op = .convert src dst x) (hs : TyOk X.P (.sl (.int .u8)) src) (hd : TyOk X.P .str dst) {c : CV} (hx : VR X β D Z w c (a.eval x)) {y : List Int × List Nat} (hy : (sliceRd (.int .u8) c).ev ob = some y) :
    Does X.P o a w (After X sl ob outs a (.e2 (.v false [.str (strOf y.1)]) [])) := by
  obtain ⟨e, h1, _, h2⟩ := hs.slice
  obtain ⟨T, Z', hg⟩ := sliceRd_sound hr hx hy .rd (.inl rfl)
  have h3 := hg.h
  obtain ⟨A, cp, hv, h4, h5⟩ := h3
  simp at hv
  refine does_value (v := .string (strOf y.1)) (w' := w) (run_conv hop ?_) (after_pure hr rfl)
  rw [hv, run_convert_bytes_string w src dst e _ _ _ h1 h2.1 hd.1]
  by_cases h0 : y.1.length = 0
  · have : y.1 = [] := List.eq_nil_of_length_eq_zero h0
    rw [this]
    cases A with
    | none => rfl
    | some A =>
      have := run_bytesToString (P := X.P) w A 0 cp [] (by simp [loadCells, loadCellsFrom])
      exact this
  · obtain ⟨g, off, cs, h6, h7, h8⟩ := h5 (by omega)
    subst h6
    have h9 := ints_of _ _ _ _ _ h7
    have h10 := run_loadCells_list (P := X.P) w ⟨g, off, none⟩ cs fun j v hj => by rw [addr_add]; exact (h8 j v hj).2
    subst h9
    rw [List.length_map] at h10
    rw [run_bytesToString (P := X.P) w _ _ _ y.1 h10]
    have := foldl_push y.1 #[]
    rw [show (ByteArray.empty) = (⟨#[]⟩ : ByteArray) from rfl, this]
    simp [strOf]
end
end Go.Dn
/- append: what the builtin does. -/
set_option linter.unusedVariables false
namespace Go.Dn

def isInt : TypeDesc → Bool
  | .int _ => true
  | _ => false
/-- What is appended: how many, their cells. -/
inductive Src (P : Program) (w : World) (e : K) (u : TypeId) (x : Value) (m : Nat) (us : List Value) : Prop where
  | zeros (k kx : IntKind) (h1 : P.underlying u = some (.int k)) (h2 : x = .int kx m) (h3 : us = repV e.zvs m)
  | cells (d : TypeDesc) (h1 : P.underlying u = some d) (h2 : isInt d = false) (h3 : ∀ w', (Builtin.lenOf x).run P w' = .ok m w') (h4 : (Builtin.firstCells e.n m x).run P w = .ok us.toArray w) (h5 : (Builtin.firstCells e.n m x).run P w.drew = .ok us.toArray w.drew)
theorem zeroCells_eq {κ : K} (hp : 0 < κ.n) (n : Nat) : Builtin.zeroCells κ.zv.cells n = (repV κ.zvs n).toArray := by
  rw [zv_cells, ← zeroRow hp n]
  simp [Builtin.zeroCells, zvs_len]
section
variable {P : Program} {w : World} {E : Env}
theorem run_isInt {t : TypeId} {d : TypeDesc} (h : P.underlying t = some d) (z : Bool) (hz : isInt d = z) (w : World) :
    (do pure ((← underlying t) matches .int _) : Sem Bool).run P w = .ok z w := by
  rw [Sem.run_bind, run_underlying h]
  subst hz
  cases d <;> rfl
theorem run_zeros {t' : TypeId} {i : TypeInfo} {e : K} (h3 : 0 < e.n) (h5 : P.info? t' = some i) (h8 : i.zero = some e.zv) (m : Nat) (w : World) :
    Sem.run P (if m * e.n = 0 then pure #[] else do let z ← zeroValue t'; pure (Builtin.zeroCells z.cells m)) w = .ok (repV e.zvs m).toArray w := by
  split
  · rename_i h
    have : m = 0 := by
      rcases Nat.mul_eq_zero.1 h with h | h
      · exact h
      · omega
    subst this; rfl
  · simp only [Sem.run_bind, zeroValue, typeInfo, run_program, Result.andThen_ok, h5, Sem.run_pure, h8, zeroCells_eq h3]
theorem run_app_room (hE : TysOk P E) {t u ty : TypeId} {b : Nat} (hb : findO E.bytes t = some b) {e : K} (ht : TyOk P (.sl e) t) {x : Value} {m n c : Nat} {us : List Value} (hs : Src P w e u x m us) (hl : us.length = m * e.n) {A : Option Addr} (hroom : n + m ≤ c) (hrm : (n + m) * b ≤ 140737488355328) {w' : World}
    (h0 : A = none → w' = w) (h1 : ∀ ad, A = some ad → (storeCells (ad.add (n * e.n)) us).run P w = .ok () w') :
    (Builtin.append_ #[t, u] ty #[.slice A n c, x]).run P w = .ok (.slice A (n + m) c) w' := by
  obtain ⟨t', i, h2, h3, h4, h5, h6, h7, h8, h9⟩ := bytes_ok hE hb ht
  have hm : m ≤ 140737488355328 := Nat.le_trans (Nat.le_add_left _ _) (Nat.le_trans (Nat.le_mul_of_pos_right _ h9) hrm)
  have hmb : m * b ≤ 140737488355328 := Nat.le_trans (Nat.mul_le_mul_right _ (Nat.le_add_left _ _)) hrm
  unfold Builtin.append_
  cases hs with
  | cells d k1 k2 k3 k4 k5 =>
    have fin : (Sem.run P (match A with | some a => do storeCells (a.add (n * e.n)) us; pure (Value.slice A (n + m) c) | x => pure (Value.slice A (n + m) c)) w) = .ok (.slice A (n + m) c) w' := by
      cases A with
      | none => rw [h0 rfl]; rfl
      | some ad => simp only [Sem.run_bind, h1 ad rfl]; rfl
    cases d <;> first
      | (cases k2; done)
      | (simp only [List.getElem?_toArray, List.getElem?_cons_zero, List.getElem?_cons_succ, Sem.run_bind, run_underlying h2, run_underlying k1, Result.andThen_ok, sizeOf, typeInfo, run_program, h5, h7, Sem.run_pure, Bool.false_eq_true, if_false, if_true, k3, hroom, Bool.not_false, k4]
         exact fin)
  | zeros k kx k1 k2 k3 =>
    have w1 : IntKind.i64.wrap (m : Int) = m := by rw [IntKind.wrap_i64]; omega
    have w2 : ¬ ((m : Int) * (b : Int) > 2 ^ 48) := by
      have : ((m * b : Nat) : Int) ≤ ((140737488355328 : Nat) : Int) := Int.ofNat_le.2 hmb
      rw [Int.natCast_mul] at this
      omega
    have w3 : ¬ ((m : Int) < 0) := by omega
    subst k2
    simp only [List.getElem?_toArray, List.getElem?_cons_zero, List.getElem?_cons_succ, Sem.run_bind, run_underlying h2, run_underlying k1, Result.andThen_ok, sizeOf, typeInfo, run_program, h5, h6, h7, Sem.run_pure, Bool.false_eq_true, if_false, if_true, hroom, Bool.not_true, asInt, asIntOf, w1, w2, w3, Int.toNat_natCast]
    rw [run_zeros h3 h5 h8, Result.andThen_ok, ← k3]
    cases A with
    | none => rw [h0 rfl]; rfl
    | some ad => simp only [Sem.run_bind, h1 ad rfl]; rfl
theorem run_app_grow (hE : TysOk P E) {t u ty : TypeId} {b : Nat} (hb : findO E.bytes t = some b) {e : K} (ht : TyOk P (.sl e) t) {x : Value} {m n c : Nat} {us old : List Value} (hs : Src P w e u x m us) {A : Option Addr} (hroom : c < n + m) (hrm : (n + m) * b ≤ 140737488355328)
    (ho : (Builtin.firstCells e.n n (.slice A n c)).run P w.drew = .ok old.toArray w.drew) :
    ∃ t' c' fr, n + m ≤ c' ∧ fr = repV e.zvs (c' - (n + m)) ∧ (Builtin.append_ #[t, u] ty #[.slice A n c, x]).run P w = .ok (.slice (some ⟨w.heap.size, 0, none⟩) (n + m) c') (w.drew.alloc (.cells (old ++ us ++ fr).toArray t')) := by
  obtain ⟨t', i, h2, h3, h4, h5, h6, h7, h8, h9⟩ := bytes_ok hE hb ht
  have hm : m ≤ 140737488355328 := Nat.le_trans (Nat.le_add_left _ _) (Nat.le_trans (Nat.le_mul_of_pos_right _ h9) hrm)
  have hmb : m * b ≤ 140737488355328 := Nat.le_trans (Nat.mul_le_mul_right _ (Nat.le_add_left _ _)) hrm
  have hnm : n + m ≤ 140737488355328 := Nat.le_trans (Nat.le_mul_of_pos_right _ h9) hrm
  have g1 : ¬ (((n + m : Nat) : Int) > IntKind.i64.max) := by
    show ¬ (((n + m : Nat) : Int) > 9223372036854775807)
    omega
  have g2 : ¬ (Builtin.nextslicecap (n + m) c * b > 2 ^ 48) := by
    have := growslice_fits hroom hrm
    omega
  have g3 : ¬ (n + m ≤ c) := by omega
  refine ⟨t', grownCap w (n + m) c t', _, Nat.le_add_right _ _, rfl, ?_⟩
  have fin : ∀ (C : Array Value), C = (old ++ us ++ repV e.zvs (grownCap w (n + m) c t' - (n + m))).toArray →
      (Result.ok (Value.slice (some ⟨w.heap.size, 0, none⟩) (n + m) (grownCap w (n + m) c t')) (w.drew.alloc (.cells C t')) : Result Value) = .ok (.slice (some ⟨w.heap.size, 0, none⟩) (n + m) (grownCap w (n + m) c t')) (w.drew.alloc (.cells (old ++ us ++ repV e.zvs (grownCap w (n + m) c t' - (n + m))).toArray t')) := fun C h => by rw [h]
  have ask : (askRoom (grownCap w (n + m) c t' * b)).run P w.drew = .ok () w.drew := by unfold askRoom; split <;> rfl
  have ch : (choose (.appendCap (n + m) c t')).run P w = .ok (grownCap w (n + m) c t') w.drew := rfl
  unfold Builtin.append_
  cases hs with
  | cells d k1 k2 k3 k4 k5 =>
    cases d <;> first
      | (cases k2; done)
      | (simp only [List.getElem?_toArray, List.getElem?_cons_zero, List.getElem?_cons_succ, Sem.run_bind, run_underlying h2, run_underlying k1, Result.andThen_ok, sizeOf, typeInfo, run_program, h5, h6, h7, Sem.run_pure, Bool.false_eq_true, if_false, if_true, k3, g1, g2, g3, false_and, ch, ask, Bool.not_false, ho, k5, zeroValue, h8, zeroCells_eq h3]
         exact fin _ (by simp))
  | zeros k kx k1 k2 k3 =>
    have w1 : IntKind.i64.wrap (m : Int) = m := by rw [IntKind.wrap_i64]; omega
    have w2 : ¬ ((m : Int) * (b : Int) > 2 ^ 48) := by
      have : ((m * b : Nat) : Int) ≤ ((140737488355328 : Nat) : Int) := Int.ofNat_le.2 hmb
      rw [Int.natCast_mul] at this
      omega
    have w3 : ¬ ((m : Int) < 0) := by omega
    subst k2
    simp only [List.getElem?_toArray, List.getElem?_cons_zero, List.getElem?_cons_succ, Sem.run_bind, run_underlying h2, run_underlying k1, Result.andThen_ok, sizeOf, typeInfo, run_program, h5, h6, h7, Sem.run_pure, Bool.false_eq_true, if_false, if_true, Bool.not_true, asInt, asIntOf, w1, w2, w3, Int.toNat_natCast, g1, g2, g3, false_and, ch, ask, ho]
    rw [run_zeros h3 h5 h8, Result.andThen_ok, ← k3]
    simp only [Sem.run_bind, zeroValue, typeInfo, run_program, Result.andThen_ok, h5, Sem.run_pure, h8, zeroCells_eq h3]
    exact fin _ (by simp)
end
end Go.Dn
/- append: the operation. -/
set_option linter.unusedVariables false
namespace Go.Dn
section
variable {X : Cx} {β : Nat → Pl} {D : Nat → Prop} {S : Nat → CS} {Z : CS} {sl : Nat → DV} {ob : Nat → OB} {outs : List CV} {a : Act} {w : World}

def qd (d : Bool) : Q := bif d then .dp else .rd
/-- The row that is appended to. -/
structure BaseOk (S : Nat → CS) (Z : CS) (w : World) (e : K) (v : Value) (l : List e.T) (d : Bool) (upd : List (Nat × OB)) (T : CS) : Prop where
  ex : ∃ A c, v = .slice A l.length c ∧ OwnSl w e.n (HL (H Z w (qd d) e) l) A l.length c T
  t : T.le (US S (upd.map (·.1)))
  u : ∃ ids, upd = killAll ids ∧ ids = upd.map (·.1)
theorem baseM_sound (hr : RelAt X β D S Z sl ob outs a w) {e : K} {c : CV} {v : Value} {x : List e.T × Bool × List (Nat × OB) × List Nat} (hd : VR X β D Z w c v) (he : (baseM e c).ev ob = some x) :
    x.2.2.2 = [] ∧ ∃ T, BaseOk S Z w e v x.1 x.2.1 x.2.2.1 T := by
  unfold baseM at he
  split at he
  · cases he
    obtain ⟨A, hv⟩ := hd
    exact ⟨rfl, CS.no, ⟨A, 0, hv, .inl ⟨rfl, rfl⟩⟩, CS.no_le _, [], rfl, rfl⟩
  · rename_i o
    obtain ⟨hD, hv⟩ := hd
    have hob := hr.objs o
    simp only [M.ev] at he
    split at he
    · rename_i e' d l ho
      obtain ⟨l', h1, h2⟩ := ev_bind_some he
      obtain ⟨rfl, rfl⟩ := ev_castL h1
      cases h2
      rw [ho] at hob
      obtain ⟨h3, h4, h5⟩ := hob
      exact ⟨rfl, S o, ⟨_, _, by rw [hv, ← h3], by rw [h3]; exact h5⟩, US.one S o, [o], rfl, rfl⟩
    · cases he
  · rename_i o off len
    obtain ⟨hD, A', c', hv, h10, h11, h12, h13, h14, h15⟩ := hd
    have hob := hr.objs o
    simp only [M.ev] at he
    split at he
    · rename_i e' d l ho
      obtain ⟨h0, he2⟩ := ev_br he
      obtain ⟨l', h1, h2⟩ := ev_bind_some he2
      obtain ⟨rfl, rfl⟩ := ev_castL h1
      cases h2
      rw [ho] at hob
      obtain ⟨h3, h4, h5⟩ := hob
      have h0' : off = 0 := by simpa using h0
      subst h0'
      have hl : (l.take len.toNat).length = len.toNat := by simp; omega
      refine ⟨rfl, S o, ⟨A', c', by rw [hv]; simp only [hl], ?_⟩, US.one S o, [o], rfl, rfl⟩
      simp only [hl]
      refine OwnSl.take h5 h3 (by omega) h13 (by simpa using h14) (h15.imp id fun h => ?_)
      rw [h]
      cases (β o).A <;> simp [Addr.add]
    · cases he
  · cases he
/-- What is appended. -/
structure MoreOk (P : Program) (S : Nat → CS) (Z : CS) (w : World) (e : K) (u : TypeId) (v : Value) (l : List e.T) (d : Bool) (dead lent : List Nat) (us : List Value) (T Z' : CS) : Prop where
  src : Src P w e u v l.length us
  h : HL (H Z' w (qd d) e) l us T
  t : T.le (US S dead)
  z : Z.le Z'
  z' : Z'.le (Z.or (US S lent))
  d : T.apart Z'
theorem lenOf_slice {P : Program} (A : Option Addr) (n c : Nat) (w : World) : (Builtin.lenOf (.slice A n c)).run P w = .ok n w := rfl
theorem firstCells_of {P : Program} {A : Option Addr} {n c sz : Nat} {us : List Value} (hl : us.length = n * sz) (h : 0 < n → ∃ g off, A = some ⟨g, off, none⟩ ∧ ∀ (j : Nat) u, us[j]? = some u → w.cell? ⟨g, off + j, none⟩ = some u) :
    (Builtin.firstCells sz n (.slice A n c)).run P w = .ok us.toArray w := by
  by_cases h0 : 0 < n
  · obtain ⟨g, off, rfl, h1⟩ := h h0
    show (loadCells ⟨g, off, none⟩ (n * sz)).run P w = _
    rw [← hl]
    exact run_loadCells_list w _ us fun j v hj => by rw [addr_add]; exact h1 j v hj
  · have h1 : n = 0 := by omega
    subst h1
    have : us = [] := List.eq_nil_of_length_eq_zero (by simpa using hl)
    subst this
    cases A with
    | none => rfl
    | some A =>
      show (loadCells A (0 * sz)).run P w = _
      rw [Nat.zero_mul]; rfl
theorem src_of {P : Program} {e : K} {u : TypeId} {d : TypeDesc} (h1 : P.underlying u = some d) (h2 : isInt d = false) {A : Option Addr} {n c : Nat} {us : List Value} (hl : us.length = n * e.n)
    (h : 0 < n → ∃ g off, A = some ⟨g, off, none⟩ ∧ ∀ (j : Nat) u, us[j]? = some u → w.cell? ⟨g, off + j, none⟩ = some u) : Src P w e u (.slice A n c) n us :=
  .cells d h1 h2 (fun w' => lenOf_slice A n c w') (firstCells_of hl h) (firstCells_of (w := w.drew) hl h)
theorem rd_src {P : Program} {e : K} {u : TypeId} {d : TypeDesc} (h1 : P.underlying u = some d) (h2 : isInt d = false) {A : Option Addr} {c : Nat} {Z' : CS} {l : List e.T} (h : RdSl Z' w (fun cs => HL (H Z' w .rd e) l cs CS.no) A l.length) :
    ∃ us, Src P w e u (.slice A l.length c) l.length us ∧ HL (H Z' w .rd e) l us CS.no := by
  by_cases h0 : 0 < l.length
  · obtain ⟨g, off, cs, h3, h4, h5⟩ := h h0
    have hl : cs.length = l.length * e.n := HL.len (n := e.n) H.rlen _ _ _ h4
    exact ⟨cs, src_of h1 h2 hl fun _ => ⟨g, off, h3, fun j u hj => (h5 j u hj).2⟩, h4⟩
  · have h6 : l = [] := List.eq_nil_of_length_eq_zero (by omega)
    subst h6
    exact ⟨[], src_of h1 h2 (by simp) fun h => absurd h h0, rfl⟩
theorem ow_src {P : Program} {e : K} {u : TypeId} {d : TypeDesc} (h1 : P.underlying u = some d) (h2 : isInt d = false) {A : Option Addr} {c n : Nat} {q : Q} {T : CS} {l : List e.T} (hl : l.length = n) (h : OwnSl w e.n (HL (H Z w q e) l) A n c T) :
    ∃ us T1, Src P w e u (.slice A n c) n us ∧ HL (H Z w q e) l us T1 ∧ T1.le T := by
  rcases h with ⟨h3, h4⟩ | ⟨g, cur, ty, fr, S1, e1, hn, hb, hcs, hS, k1, k2, k3⟩
  · have h6 : l = [] := List.eq_nil_of_length_eq_zero (by omega)
    subst h6
    exact ⟨[], CS.no, src_of h1 h2 (by rw [h3]; simp) fun h => by omega, rfl, CS.no_le _⟩
  · refine ⟨_, S1, src_of h1 h2 ?_ fun _ => ⟨g, 0, e1, fun j u hj => ?_⟩, k3, k1⟩
    · have := HL.len (n := e.n) H.rlen _ _ _ k3
      rw [hl] at this; exact this
    · rw [take_get] at hj
      split at hj
      · rw [cell?_of hb.1, Nat.zero_add]; simpa using hj
      · cases hj
theorem flat_HL {e : K} (hf : e.flat = true) {q q' : Q} {Z' Z2 : CS} {l : List e.T} {us : List Value} {T T' : CS} (h : HL (H Z' w q e) l us T) : HL (H Z2 w q' e) l us T' :=
  HL.read (fun x u S T hx => H.flat e q q' x u S T hf hx) _ _ _ _ h
theorem moreM_sound (hr : RelAt X β D S Z sl ob outs a w) {e : K} {d : Bool} {u : TypeId} {κ : K} (hu : TyOk X.P κ u) (hk : ∀ k, κ ≠ .int k) {c : CV} {v : Value} {x : List e.T × Bool × List Nat × List Nat} (hd : VR X β D Z w c v) (he : (moreM e d c).ev ob = some x) :
    ∃ us T Z', MoreOk X.P S Z w e u v x.1 x.2.1 x.2.2.1 x.2.2.2 us T Z' := by
  obtain ⟨dd, h1, h2⟩ : ∃ dd, X.P.underlying u = some dd ∧ isInt dd = false := by
    cases κ with
    | int k => exact absurd rfl (hk k)
    | bool => exact ⟨_, hu.1, rfl⟩
    | str => exact ⟨_, hu.1, rfl⟩
    | unit => exact hu.elim
    | pair a b => obtain ⟨_, _, _, h, _⟩ := hu; exact ⟨_, h, rfl⟩
    | sl e => obtain ⟨_, h, _⟩ := hu; exact ⟨_, h, rfl⟩
  unfold moreM at he
  split at he
  · rename_i s
    obtain ⟨l, h3, h4⟩ := ev_bind_some he
    obtain ⟨e1, h5⟩ := castL_some (ev_ofO h3)
    subst e1
    cases h5
    cases h4
    have hv : v = .string s := hd
    have hlen : (bytesOf s).length = s.size := by simp [bytesOf]
    subst hv
    refine ⟨(bytesOf s).map (Value.int .u8), CS.no, Z, .cells dd h1 h2 (fun w' => by simp only [hlen]; rfl) ?_ ?_, bytes_H .u8 _, CS.no_le _, CS.le.refl _, CS.le_l _ _, fun _ _ h => h.elim⟩
    all_goals
      simp only [hlen, Builtin.firstCells, Sem.run_pure]
      congr 1
      apply Array.toList_inj.1
      simp [bytesOf]
  · rename_i o
    obtain ⟨hD, hv⟩ := hd
    have hob := hr.objs o
    simp only [M.ev] at he
    split at he
    · rename_i e' d' fr l ho
      obtain ⟨l', h3, h4⟩ := ev_bind_some he
      obtain ⟨rfl, rfl⟩ := ev_castL h3
      rw [ho] at hob
      obtain ⟨g1, g2, g3⟩ := hob.lens
      subst hv
      cases hf : e'.flat with
      | true =>
        rw [hf] at h4
        cases h4
        obtain ⟨Z', h6, h7, h8⟩ := hob.read
        rw [← g1] at h8
        obtain ⟨us, h9, h10⟩ := rd_src (P := X.P) (c := (β o).c) h1 h2 h8
        exact ⟨us, CS.no, Z, by rw [← g1]; exact h9, flat_HL hf h10, CS.no_le _, CS.le.refl _, CS.le_l _ _, fun _ _ h => h.elim⟩
      | false =>
        rw [hf] at h4
        simp only [cond_false] at h4
        cases hc : (d && d' && !fr) with
        | true =>
          rw [hc] at h4
          cases h4
          simp only [Bool.and_eq_true, Bool.not_eq_true'] at hc
          obtain ⟨⟨_, rfl⟩, rfl⟩ := hc
          obtain ⟨_, _, h5⟩ := hob
          obtain ⟨us, T1, h6, h7, h8⟩ := ow_src (P := X.P) h1 h2 g1 h5
          exact ⟨us, T1, Z, by rw [g1]; exact h6, h7, h8.trans (US.one S o), CS.le.refl _, CS.le_l _ _, (hr.sz o).mono h8 (CS.le.refl _)⟩
        | false =>
          rw [hc] at h4
          cases h4
          obtain ⟨Z', h6, h7, h8⟩ := hob.read
          rw [← g1] at h8
          obtain ⟨us, h9, h10⟩ := rd_src (P := X.P) (c := (β o).c) h1 h2 h8
          refine ⟨us, CS.no, Z', by rw [← g1]; exact h9, h10, CS.no_le _, h6, h7.trans (CS.or_le (CS.le_l _ _) ?_), fun _ _ h => h.elim⟩
          cases fr with
          | true => exact CS.no_le _
          | false => exact (US.one S o).trans (CS.le_r _ _)
    · cases he
  · cases he
    obtain ⟨A, hv⟩ := hd
    subst hv
    exact ⟨[], CS.no, Z, src_of h1 h2 (by simp) fun h => absurd h (Nat.lt_irrefl _), rfl, CS.no_le _, CS.le.refl _, CS.le_l _ _, fun _ _ h => h.elim⟩
  · obtain ⟨y, h3, h4⟩ := ev_bind_some he
    cases h4
    obtain ⟨T, Z', hg⟩ := sliceRd_sound hr hd h3 .rd (.inl rfl)
    obtain ⟨A, cp, hv, h5, h6⟩ := hg.h
    simp at hv
    subst hv
    obtain ⟨us, h9, h10⟩ := rd_src (P := X.P) (c := cp) h1 h2 h6
    cases hf : e.flat with
    | true => exact ⟨us, CS.no, Z, h9, flat_HL hf h10, CS.no_le _, CS.le.refl _, CS.le_l _ _, fun _ _ h => h.elim⟩
    | false => exact ⟨us, CS.no, Z', h9, h10, CS.no_le _, hg.z, hg.z', fun _ _ h => h.elim⟩
end
end Go.Dn
/- append: the operation's soundness. -/
set_option linter.unusedVariables false
namespace Go.Dn
section
variable {X : Cx} {β : Nat → Pl} {D : Nat → Prop} {S : Nat → CS} {Z : CS} {sl : Nat → DV} {ob : Nat → OB} {outs : List CV} {a : Act} {w : World}

theorem RelAt.more (hr : RelAt X β D S Z sl ob outs a w) (Z' : CS) (hz : Z.le Z') (h1 : ∀ o, (S o).apart Z') (h2 : ∀ b j, Z' b j → X.Z0 b j ∨ X.F b j) (h3 : Bd Z' w) : RelAt X β D S Z' sl ob outs a w :=
  hr.step (T := CS.no) (fun _ d => ⟨d, rfl⟩) hz (Agr.refl _ _) (fun _ _ t => t.elim) (fun _ _ t => t.elim) (fun o => .inr ⟨rfl, CS.le.refl _, fun _ _ t => t.elim, .inl rfl⟩) hr.dom hr.apart h1 hr.sin h2 h3
/-- Memory that is no object's turns. -/
theorem RelAt.free (hr : RelAt X β D S Z sl ob outs a w) {T : CS} {w' : World} (ha : Agr T w w') (h1 : T.apart Z) (h2 : T.le X.F) (h3 : ∀ o, T.apart (S o)) : RelAt X β D S Z sl ob outs a w' :=
  hr.step (fun _ d => ⟨d, rfl⟩) (CS.le.refl _) ha h1 h2 (fun o => .inr ⟨rfl, CS.le.refl _, h3 o, .inl rfl⟩) hr.dom hr.apart hr.sz (fun o => ⟨(hr.sin o).1, (hr.sin o).2.mono ha.size⟩) hr.zin (hr.zbd.mono ha.size)
/-- The new row: its element, its own memory, what may be read. -/
theorem append_core (hr : RelAt X β D S Z sl ob outs a w) {E : Env} (hE : TysOk X.P E) {t u ty : TypeId} {b : Nat} (hb : findO E.bytes t = some b) {e : K} (ht : TyOk X.P (.sl e) t) {v vx : Value} {l1 l2 : List e.T} {d1 d2 : Bool} {updB : List (Nat × OB)} {T1 T2 Z2 : CS} {dead lent : List Nat} {us : List Value}
    (hB : BaseOk S Z w e v l1 d1 updB T1) (hM : MoreOk X.P S Z w e u vx l2 d2 dead lent us T2 Z2) (hap : ∀ o ∈ dead ++ lent, o ∉ updB.map (·.1)) (hdl : ∀ o ∈ lent, o ∉ dead) {uf : List (Nat × OB)} (hfz : (Dn.freezeAll lent).ev ob = some uf)
    (hrm : (l1.length + l2.length) * b ≤ 140737488355328) {nid : Nat} (hn : ob nid = .non) (hnid : nid ∉ updB.map (·.1) ++ dead ++ lent) :
    ∃ v' w', (Builtin.append_ #[t, u] ty #[v, vx]).run X.P w = .ok v' w' ∧ After X sl ob outs a ⟨.v false [.arr nid], updB ++ killAll dead ++ uf ++ [(nid, .arr e (d1 && d2) false (l1 ++ l2))], []⟩ v' w' := by
  obtain ⟨ids, hu, hids⟩ := hB.u
  rw [← hids] at hap hnid
  have hT1 : T1.le (US S ids) := by rw [hids]; exact hB.t
  obtain ⟨A, c, hv, hO⟩ := hB.ex
  -- base and more, as the new row holds them
  obtain ⟨Tb, N, hTb, hN, hTN, hOb⟩ : ∃ Tb N, CS.le Tb T1 ∧ CS.le N T1 ∧ CS.apart Tb N ∧ OwnSl w e.n (HL (H (Z.or N) w (qd (d1 && d2)) e) l1) A l1.length c Tb := by
    cases hd : (d1 && d2) with
    | true =>
      simp only [Bool.and_eq_true] at hd
      obtain ⟨rfl, rfl⟩ := hd
      exact ⟨T1, CS.no, CS.le.refl _, CS.no_le _, CS.apart_no _, OwnSl.more (CS.le_l _ _) hO⟩
    | false => exact OwnSl.weaken hO
  obtain ⟨Tm, Zm, hTm, hZm, hZm', hTZm, hHm⟩ : ∃ Tm Zm, CS.le Tm T2 ∧ Z.le Zm ∧ CS.le Zm (Z2.or T2) ∧ CS.apart Tm Zm ∧ HL (H Zm w (qd (d1 && d2)) e) l2 us Tm := by
    cases hd : (d1 && d2) with
    | true =>
      simp only [Bool.and_eq_true] at hd
      obtain ⟨rfl, rfl⟩ := hd
      exact ⟨T2, Z2, CS.le.refl _, hM.z, CS.le_l _ _, hM.d, hM.h⟩
    | false =>
      refine ⟨CS.no, Z2.or T2, CS.no_le _, hM.z.trans (CS.le_l _ _), CS.le.refl _, fun _ _ h => h.elim, ?_⟩
      exact HL.read (R := fun y u S2 => H Z2 w (qd d2) e y u S2 ∧ S2.le T2) (fun y u S2 T hy => H.toRd (CS.le_l _ _) e _ y u S2 T (hy.2.trans (CS.le_r _ _)) hy.1) _ _ _ _ (HL.imp _ _ _ (fun y u S2 hl hy => ⟨hy, hl⟩) hM.h)
  have hT2 := hM.t
  have hZ2 := hM.z'
  have hused := hr.used (dead := ids ++ dead) (lent := lent) hfz (fun o ho h => by
    rcases List.mem_append.1 h with h | h
    · exact hap o (List.mem_append.2 (.inr ho)) h
    · exact hdl o ho h)
  -- who is apart of whom
  have aIL : (US S ids).apart (US S (dead ++ lent)) := (US.apart hr hap).symm
  have aDL : (US S dead).apart (US S lent) := (US.apart hr hdl).symm
  have aO : ∀ (o : Nat) (l : List Nat), (∀ i ∈ l, i ∈ ids ++ dead ++ lent) → (Sno S (ids ++ dead ++ lent) o).apart (US S l) := fun o l hl b j s ⟨i, hi, s2⟩ => by
    by_cases h : o ∈ ids ++ dead ++ lent
    · rw [Sno_in h] at s; exact s
    · rw [Sno_out h] at s
      exact hr.apart o i (fun e => h (e ▸ hl i hi)) b j s s2
  have iI : ∀ i ∈ ids, i ∈ ids ++ dead ++ lent := fun i h => by simp [h]
  have iD : ∀ i ∈ dead, i ∈ ids ++ dead ++ lent := fun i h => by simp [h]
  have iL : ∀ i ∈ lent, i ∈ ids ++ dead ++ lent := fun i h => by simp [h]
  have zm : ∀ b j, Zm b j → Z b j ∨ US S lent b j ∨ US S dead b j := fun b j z => by
    rcases hZm' b j z with z | z
    · rcases hZ2 b j z with z | z
      · exact .inl z
      · exact .inr (.inl z)
    · exact .inr (.inr (hT2 b j z))
  have nI : N.le (US S ids) := hN.trans hT1
  have bI : Tb.le (US S ids) := hTb.trans hT1
  have mD : Tm.le (US S dead) := hTm.trans hT2
  have uF : ∀ (l : List Nat) b j, US S l b j → X.F b j ∧ b < w.heap.size := fun l b j ⟨o, _, s⟩ => ⟨(hr.sin o).1 b j s, (hr.sin o).2 b j s⟩
  obtain ⟨Zf, hZf⟩ : ∃ Zf, Zf = (Z.or (US S lent)).or ((Z.or N).or Zm) := ⟨_, rfl⟩
  have zf : ∀ b j, Zf b j → Z b j ∨ US S lent b j ∨ N b j ∨ Zm b j := fun b j z => by
    rw [hZf] at z
    rcases z with (z | z) | (z | z) | z
    · exact .inl z
    · exact .inr (.inl z)
    · exact .inl z
    · exact .inr (.inr (.inl z))
    · exact .inr (.inr (.inr z))
  have zle : Z.le Zf := hZf ▸ (CS.le_l _ _).trans (CS.le_l _ _)
  have nle : (Z.or N).le Zf := hZf ▸ (CS.le_l _ _).trans (CS.le_r _ _)
  have mle : Zm.le Zf := hZf ▸ (CS.le_r _ _).trans (CS.le_r _ _)
  have hm := hused.more Zf (hZf ▸ CS.le_l _ _) (fun o b j s z => by
    rcases zf b j z with z | z | z | z
    · exact hused.sz o b j s (.inl z)
    · exact hused.sz o b j s (.inr z)
    · exact aO o ids iI b j s (nI b j z)
    · rcases zm b j z with z | z | z
      · exact hused.sz o b j s (.inl z)
      · exact hused.sz o b j s (.inr z)
      · exact aO o dead iD b j s z) (fun b j z => by
    rcases zf b j z with z | z | z | z
    · exact hr.zin b j z
    · exact .inr (uF _ b j z).1
    · exact .inr (uF _ b j (nI b j z)).1
    · rcases zm b j z with z | z | z
      · exact hr.zin b j z
      · exact .inr (uF _ b j z).1
      · exact .inr (uF _ b j z).1) (fun b j z => by
    rcases zf b j z with z | z | z | z
    · exact hr.zbd b j z
    · exact (uF _ b j z).2
    · exact (uF _ b j (nI b j z)).2
    · rcases zm b j z with z | z | z
      · exact hr.zbd b j z
      · exact (uF _ b j z).2
      · exact (uF _ b j z).2)
  have tbZ : ∀ T : CS, T.le (US S ids) → T.apart N → T.apart Zf := fun T hT hTN b j s z => by
    rcases zf b j z with z | z | z | z
    · exact US.apartZ hr ids b j (hT b j s) z
    · exact aIL b j (hT b j s) (US.le (fun i h => List.mem_append.2 (.inr h)) b j z)
    · exact hTN b j s z
    · rcases zm b j z with z | z | z
      · exact US.apartZ hr ids b j (hT b j s) z
      · exact aIL b j (hT b j s) (US.le (fun i h => List.mem_append.2 (.inr h)) b j z)
      · exact aIL b j (hT b j s) (US.le (fun i h => List.mem_append.2 (.inl h)) b j z)
  have tmZ : Tm.apart Zf := fun b j s z => by
    rcases zf b j z with z | z | z | z
    · exact US.apartZ hr dead b j (mD b j s) z
    · exact aDL b j (mD b j s) z
    · exact aIL b j (nI b j z) (US.le (fun i h => List.mem_append.2 (.inl h)) b j (mD b j s))
    · exact hTZm b j s z
  have bm : Tb.apart Tm := fun b j s z => aIL b j (bI b j s) (US.le (fun i h => List.mem_append.2 (.inl h)) b j (mD b j z))
  have hob' : (updAll ob (killAll (ids ++ dead) ++ uf)) nid = .non := by
    rw [updAll_out _ _ _ fun x hx e => ?_]
    · exact hn
    · rcases List.mem_append.1 hx with hx | hx
      · obtain ⟨o, ho, rfl⟩ := List.mem_map.1 hx
        exact hnid (by rw [← e]; exact List.mem_append.2 (.inl ho))
      · exact hnid (by rw [← e]; exact List.mem_append.2 (.inr (freeze_ids _ _ hfz x hx)))
  have hupd : updAll ob (updB ++ killAll dead ++ uf ++ [(nid, .arr e (d1 && d2) false (l1 ++ l2))]) = upd (updAll ob (killAll (ids ++ dead) ++ uf)) nid (.arr e (d1 && d2) false (l1 ++ l2)) := by
    rw [updAll_app, hu]
    simp only [killAll, List.map_append]
    rfl
  have hl := HL.len (n := e.n) H.rlen _ _ _ hHm
  subst hv
  by_cases hroom : l1.length + l2.length ≤ c
  · rcases hOb with ⟨k1, k2⟩ | ⟨g, cur, t', fr, S1, e1, hnc, hbk, hcs, hS, k1, k2, k3⟩
    · have e2 : l1 = [] := List.eq_nil_of_length_eq_zero k1
      have e3 : l2 = [] := List.eq_nil_of_length_eq_zero (by omega)
      subst e2; subst e3; subst k2
      have e4 : us = [] := List.eq_nil_of_length_eq_zero (by simpa using hl)
      subst e4
      have hrun := run_app_room (ty := ty) hE hb ht hM.src hl (A := A) (n := 0) (c := 0) (by simp) (by simp) (w' := w) (fun _ => rfl) (fun ad _ => rfl)
      refine ⟨_, w, hrun, upd β nid ⟨0, 0, A, 0, 0, e.n⟩, fun i => D i ∨ i = nid, upd (Sno S (ids ++ dead ++ lent)) nid CS.no, Zf, ?_, .inr rfl, by rw [upd_same]; rfl⟩
      rw [hupd]
      refine hm.new nid hob' _ _ (by simp) CS.no (CS.no_le _) (fun _ _ h => h.elim) (fun _ _ h => h.elim) (fun _ _ _ _ h => h.elim) ?_
      rw [OR, upd_same]
      exact ⟨rfl, rfl, .inl ⟨rfl, rfl⟩⟩
    · have hqm := Nat.mul_le_mul_right e.n hroom
      rw [Nat.add_mul] at hqm
      have hgI : ∀ j, US S ids g j := fun j => bI g j (hS j)
      have hTI : CS.le (fun b' j => b' = g ∧ l1.length * e.n ≤ j ∧ j < l1.length * e.n + us.length) (US S ids) := fun b' j t => t.1 ▸ hgI j
      have hTb : CS.le (fun b' j => b' = g ∧ l1.length * e.n ≤ j ∧ j < l1.length * e.n + us.length) Tb := fun b' j t => t.1 ▸ hS j
      have hwr : ∀ j, j < us.length → ∃ v, Wr w g (l1.length * e.n + j) v := fun j hj => by
        have hlt : l1.length * e.n + j < cur.size := by omega
        refine ⟨cur[l1.length * e.n + j], by rw [cell?_of hbk.1]; simp [hlt], ?_⟩
        simp only [World.frozen?, hbk.1]
        rcases hbk.2 with h | h <;> simp <;> omega
      have hone : ∀ u ∈ us, u.oneCell' = true := fun u hu => by
        obtain ⟨i, hi, rfl⟩ := List.getElem_of_mem hu
        have hp : 0 < e.n := by
          rcases Nat.eq_zero_or_pos e.n with h | h
          · rw [h] at hl; omega
          · exact h
        have hdm : i / e.n < l2.length := (Nat.div_lt_iff_lt_mul hp).2 (by omega)
        obtain ⟨uu, S2, q1, q2, q3⟩ := HL.get (n := e.n) H.rlen l2 us Tm hHm (i / e.n) l2[i / e.n] (by rw [List.getElem?_eq_getElem hdm])
        have q4 := q3 (i % e.n) (Nat.mod_lt _ hp)
        rw [Nat.div_add_mod' i e.n, List.getElem?_eq_getElem hi] at q4
        exact H.one _ _ _ _ _ q1 _ (List.mem_of_getElem? q4.symm)
      have ha := Agr.setCells g us (l1.length * e.n) w
      have hrun := run_app_room (ty := ty) hE hb ht hM.src hl (A := A) (n := l1.length) (c := c) hroom hrm (w' := w.setCells g (l1.length * e.n) us) (fun h => by rw [h] at e1; cases e1) (fun ad h => by
        rw [e1] at h
        cases h
        have := run_storeCells_cells (P := X.P) g (l1.length * e.n) us 0 w (fun j hj => by obtain ⟨u, h⟩ := hwr j hj; simpa using congrArg Option.isSome h.1) (fun j hj => by obtain ⟨u, h⟩ := hwr j hj; simpa using h.2) hone
        rw [addr_add, Nat.zero_add]
        simpa using this)
      obtain ⟨cur', m1, m2⟩ := heap_setCells g us (l1.length * e.n) w cur t' fr hbk.1 (by omega)
      have hsz : cur'.size = cur.size := by
        have := congrArg List.length m2
        simp at this; omega
      have hTZ : CS.apart (fun b' j => b' = g ∧ l1.length * e.n ≤ j ∧ j < l1.length * e.n + us.length) Zf := fun b' j t => tbZ Tb bI hTN b' j (hTb b' j t)
      have hm2 := hm.free ha hTZ (fun b' j t => (uF _ b' j (hTI b' j t)).1) (fun o b' j t s => aO o ids iI b' j s (hTI b' j t))
      refine ⟨_, _, hrun, upd β nid ⟨0, 0, A, l1.length + l2.length, c, e.n⟩, fun i => D i ∨ i = nid, upd (Sno S (ids ++ dead ++ lent)) nid (Tb.or Tm), Zf, ?_, .inr rfl, by rw [upd_same]⟩
      rw [hupd]
      refine hm2.new nid hob' _ _ (by simp) (Tb.or Tm) (CS.or_le (fun b j t => (uF _ b j (bI b j t)).1) (fun b j t => (uF _ b j (mD b j t)).1)) ?_ (CS.or_apart (tbZ Tb bI hTN) tmZ) (fun o _ => CS.or_apart (fun b j t s => aO o ids iI b j s (bI b j t)) (fun b j t s => aO o dead iD b j s (mD b j t))) ?_
      · rintro b j (t | t)
        · exact Nat.lt_of_lt_of_le (uF _ b j (bI b j t)).2 ha.size
        · exact Nat.lt_of_lt_of_le (uF _ b j (mD b j t)).2 ha.size
      · rw [OR, upd_same]
        refine ⟨by simp, rfl, .inr ⟨g, cur', t', fr, S1.or Tm, e1, hroom, ⟨m1, hbk.2⟩, by rw [hsz]; exact hcs, fun j => .inl (hS j), CS.or_le (k1.trans (CS.le_l _ _)) (CS.le_r _ _), fun j t => t.elim (k2 j) fun t => bm g j (hS j) t, ?_⟩⟩
        have hap1 : CS.apart (fun b' j => b' = g ∧ l1.length * e.n ≤ j ∧ j < l1.length * e.n + us.length) S1 := fun b' j t s => k2 j (t.1 ▸ s)
        have hap2 : CS.apart (fun b' j => b' = g ∧ l1.length * e.n ≤ j ∧ j < l1.length * e.n + us.length) Tm := fun b' j t s => bm b' j (hTb b' j t) s
        have q1 : HL (H Zf (w.setCells g (l1.length * e.n) us) (qd (d1 && d2)) e) l1 (cur.toList.take (l1.length * e.n)) S1 :=
          HL.imp _ _ _ (fun y v S3 hs hy => H.more nle _ _ _ _ _ (H.agr ha (fun b j t z => hTZ b j t (nle b j z)) _ _ _ _ _ (hap1.mono (CS.le.refl _) hs) hy)) k3
        have q2 : HL (H Zf (w.setCells g (l1.length * e.n) us) (qd (d1 && d2)) e) l2 us Tm :=
          HL.imp _ _ _ (fun y v S3 hs hy => H.more mle _ _ _ _ _ (H.agr ha (fun b j t z => hTZ b j t (mle b j z)) _ _ _ _ _ (hap2.mono (CS.le.refl _) hs) hy)) hHm
        have q3 := HL.app _ _ _ _ S1 Tm (S1.or Tm) q1 q2 ⟨CS.le_l _ _, CS.le_r _ _, bm.mono k1 (CS.le.refl _)⟩
        have q4 : (cur'.toList).take ((l1.length + l2.length) * e.n) = cur.toList.take (l1.length * e.n) ++ us := by
          rw [m2, Nat.add_mul, ← hl, List.take_append_of_le_length (by simp; omega), List.take_of_length_le (by simp; omega)]
        rw [q4]
        exact q3
  · have hlt : c < l1.length + l2.length := by omega
    obtain ⟨old, S1, q1, q2, q3, q4⟩ : ∃ (old : List Value) (S1 : CS), (Builtin.firstCells e.n l1.length (.slice A l1.length c)).run X.P w.drew = .ok old.toArray w.drew ∧ HL (H (Z.or N) w (qd (d1 && d2)) e) l1 old S1 ∧ S1.le Tb ∧ old.length = l1.length * e.n := by
      rcases hOb with ⟨k1, k2⟩ | ⟨g, cur, t', fr, S1, e1, hnc, hbk, hcs, hS, k1, k2, k3⟩
      · have e2 : l1 = [] := List.eq_nil_of_length_eq_zero k1
        subst e2
        exact ⟨[], CS.no, firstCells_of (w := w.drew) (by simp) fun h => absurd h (Nat.lt_irrefl _), rfl, CS.no_le _, by simp⟩
      · have hlo := HL.len (n := e.n) H.rlen _ _ _ k3
        refine ⟨_, S1, firstCells_of (w := w.drew) hlo fun _ => ⟨g, 0, e1, fun j u hj => ?_⟩, k3, k1, hlo⟩
        rw [take_get] at hj
        split at hj
        · show w.cell? _ = _
          rw [cell?_of hbk.1, Nat.zero_add]; simpa using hj
        · cases hj
    obtain ⟨t', c', fr, r1, r2, hrun⟩ := run_app_grow (ty := ty) hE hb ht hM.src (A := A) (n := l1.length) (c := c) hlt hrm q1
    have ha : Agr CS.no w (w.drew.alloc (.cells (old ++ us ++ fr).toArray t')) := (Agr.drew CS.no w).trans' (Agr.alloc CS.no w.drew _)
    have hlen : (l1 ++ l2).length = l1.length + l2.length := List.length_append
    have hfr : fr.length = (c' - (l1.length + l2.length)) * e.n := by rw [r2, repV_len, zvs_len]
    have hHall : HL (H Zf w (qd (d1 && d2)) e) (l1 ++ l2) (old ++ us) (S1.or Tm) := HL.app _ _ _ _ S1 Tm (S1.or Tm)
      (HL.imp _ _ _ (fun y v S3 hs hy => H.more nle _ _ _ _ _ hy) q2) (HL.imp _ _ _ (fun y v S3 hs hy => H.more mle _ _ _ _ _ hy) hHm) ⟨CS.le_l _ _, CS.le_r _ _, bm.mono q3 (CS.le.refl _)⟩
    obtain ⟨β', D', S', Z', hA, hV⟩ := arr_new hm (e := e) (d := d1 && d2) (l := l1 ++ l2) (us := old ++ us) (rest := fr) (T := S1.or Tm) t' c' nid hob' (by rw [hlen]; exact r1) (by rw [hlen, List.length_append, q4, hl, Nat.add_mul])
      (by
        rw [List.length_append, List.length_append, q4, hl, hfr, ← Nat.add_mul, ← Nat.add_mul]
        exact Nat.mul_le_mul_right _ (by omega))
      hHall (CS.or_le (fun b j t => (uF _ b j (bI b j (q3 b j t))).1) (fun b j t => (uF _ b j (mD b j t)).1)) (fun b j t => t.elim (fun t => (uF _ b j (bI b j (q3 b j t))).2) fun t => (uF _ b j (mD b j t)).2)
      (CS.or_apart ((tbZ Tb bI hTN).mono q3 (CS.le.refl _)) tmZ) (fun o => CS.or_apart (fun b j t s => aO o ids iI b j s (bI b j (q3 b j t))) (fun b j t s => aO o dead iD b j s (mD b j t))) _ (0, 0) (.inr (Nat.le_refl _)) ha (heap_alloc_new w.drew _)
    refine ⟨_, _, hrun, β', D', S', Z', ?_, by rw [← hlen]; exact hV⟩
    rw [hupd]
    exact hA

theorem sliceRd_ids {e : K} {c : CV} {x : List e.T × List Nat} (he : (sliceRd e c).ev ob = some x) : ∀ i ∈ x.2, ob i ≠ .non := by
  unfold sliceRd at he
  split at he
  · cases he; intro i h; cases h
  · obtain ⟨l, h1, h2⟩ := ev_bind_some he; cases h2; intro i h; cases h
  · simp only [M.ev] at he
    split at he
    · rename_i fr l ho
      obtain ⟨l', h1, h2⟩ := ev_bind_some he
      cases h2
      intro i h
      cases fr with
      | true => cases h
      | false =>
        rcases List.mem_singleton.1 h with rfl
        rw [ho]; simp
    · cases he
  · simp only [M.ev] at he
    split at he
    · rename_i fr l ho
      obtain ⟨l', h1, h2⟩ := ev_bind_some he
      cases h2
      intro i h
      cases fr with
      | true => cases h
      | false =>
        rcases List.mem_singleton.1 h with rfl
        rw [ho]; simp
    · cases he
  · simp only [M.ev] at he
    split at he
    · rename_i ho
      obtain ⟨l', h1, h2⟩ := ev_bind_some he
      obtain ⟨l2, h3, h4⟩ := ev_bind_some h2
      cases h4
      intro i h
      rcases List.mem_singleton.1 h with rfl
      rw [ho]; simp
    · cases he
  · cases he
theorem moreM_ids {e : K} {d : Bool} {c : CV} {x : List e.T × Bool × List Nat × List Nat} (he : (moreM e d c).ev ob = some x) : (∀ i ∈ x.2.2.1 ++ x.2.2.2, ob i ≠ .non) ∧ ∀ i ∈ x.2.2.2, i ∉ x.2.2.1 := by
  unfold moreM at he
  split at he
  · obtain ⟨l, h1, h2⟩ := ev_bind_some he; cases h2
    exact ⟨fun i h => (by cases h), fun i h => (by cases h)⟩
  · simp only [M.ev] at he
    split at he
    · rename_i e' d' fr l ho
      obtain ⟨l', h1, h2⟩ := ev_bind_some he
      cases hf : e'.flat with
      | true => rw [hf] at h2; cases h2; exact ⟨fun i h => (by cases h), fun i h => (by cases h)⟩
      | false =>
        rw [hf] at h2
        simp only [cond_false] at h2
        cases hc : (d && d' && !fr) with
        | true =>
          rw [hc] at h2; cases h2
          exact ⟨fun i h => (by rcases List.mem_singleton.1 h with rfl; rw [ho]; simp), fun i h => (by cases h)⟩
        | false =>
          rw [hc] at h2; cases h2
          refine ⟨fun i h => ?_, fun i h h' => by cases h'⟩
          cases fr with
          | true => cases h
          | false => rcases List.mem_singleton.1 h with rfl; rw [ho]; simp
    · cases he
  · cases he; exact ⟨fun i h => (by cases h), fun i h => (by cases h)⟩
  · obtain ⟨y, h3, h4⟩ := ev_bind_some he
    cases h4
    refine ⟨fun i h => ?_, fun i h h' => by cases h'⟩
    cases hf : e.flat with
    | true => rw [hf] at h; cases h
    | false => rw [hf] at h; exact sliceRd_ids h3 i h
theorem baseM_ids {e : K} {c : CV} {x : List e.T × Bool × List (Nat × OB) × List Nat} (he : (baseM e c).ev ob = some x) : ∀ i ∈ x.2.2.1.map (·.1), ob i ≠ .non := by
  unfold baseM at he
  split at he
  · cases he; intro i h; cases h
  · simp only [M.ev] at he
    split at he
    · rename_i ho
      obtain ⟨l', h1, h2⟩ := ev_bind_some he
      cases h2
      intro i h
      rcases List.mem_singleton.1 h with rfl
      rw [ho]; simp
    · cases he
  · simp only [M.ev] at he
    split at he
    · rename_i ho
      obtain ⟨h0, he2⟩ := ev_br he
      obtain ⟨l', h1, h2⟩ := ev_bind_some he2
      cases h2
      intro i h
      rcases List.mem_singleton.1 h with rfl
      rw [ho]; simp
    · cases he
  · cases he
theorem op_append (hr : RelAt X β D S Z sl ob outs a w) {E : Env} (hE : TysOk X.P E) {o : Oper} {cl : Call} (hop : o.op = .call cl) (hcb : cl.callee = .builtin .append) {s x : Operand} {t u : TypeId} (hx : cl.args.toList = [s, x]) (hts : cl.argTypes.toList = [t, u]) {b : Nat} (hb : findO E.bytes t = some b) {e κ : K} (ht : TyOk X.P (.sl e) t) (hu : TyOk X.P κ u)
    {cs cx : CV} (hs : VR X β D Z w cs (a.eval s)) (hcx : (∃ k kx, ∃ n : Int, κ = .int k ∧ 0 ≤ n ∧ a.eval x = .int kx n ∧ cx = .fz e (List.replicate n.toNat e.zero)) ∨ ((∀ k, κ ≠ .int k) ∧ VR X β D Z w cx (a.eval x))) {nid : Nat} {ef : Eff} (he : (appendM e b nid cs cx).ev ob = some ef) :
    Does X.P o a w (After X sl ob outs a ef) := by
  have hx' : cl.args = #[s, x] := Array.toList_inj.1 (by simpa using hx)
  have ht' : cl.argTypes = #[t, u] := Array.toList_inj.1 (by simpa using hts)
  obtain ⟨hn, he1⟩ := ev_newM he
  obtain ⟨B, h1, he2⟩ := ev_bind_some he1
  obtain ⟨M', h2, he3⟩ := ev_bind_some he2
  obtain ⟨h3, T1, hB⟩ := baseM_sound hr hs h1
  have hM : ∃ us T2 Z2, MoreOk X.P S Z w e u (a.eval x) M'.1 M'.2.1 M'.2.2.1 M'.2.2.2 us T2 Z2 := by
    rcases hcx with ⟨k, kx, n, rfl, h0, h4, rfl⟩ | ⟨h4, h5⟩
    · obtain ⟨y, h5, h6⟩ := ev_bind_some h2
      obtain ⟨l, h7, h8⟩ := ev_bind_some h5
      obtain ⟨e1, h9⟩ := castL_some (ev_ofO h7)
      cases e1
      cases h9
      cases h8
      cases h6
      refine ⟨repV e.zvs n.toNat, CS.no, Z, .zeros k kx hu.1 (by rw [h4]; simp; omega) (by simp), rep_H _, CS.no_le _, CS.le.refl _, CS.le_l _ _, fun _ _ h => h.elim⟩
    · exact moreM_sound hr hu h4 h5 h2
  obtain ⟨us, T2, Z2, hM⟩ := hM
  have hid := moreM_ids h2
  have hid2 := baseM_ids h1
  cases hc : apartN (M'.2.2.1 ++ M'.2.2.2) (B.2.2.1.map (·.1)) with
  | false => rw [hc] at he3; cases he3
  | true =>
    rw [hc] at he3
    simp only [cond_true] at he3
    obtain ⟨h6, he4⟩ := ev_br he3
    obtain ⟨uf, h7, he5⟩ := ev_bind_some he4
    cases he5
    obtain ⟨v', w', h8, h9⟩ := append_core (ty := o.type) hr hE hb ht hB hM (apartN_ok hc) hid.2 h7 (Nat.le_of_ble_eq_true h6) hn (fun h => by
      simp only [List.append_assoc, List.mem_append] at h
      rcases h with h | h
      · exact hid2 nid h hn
      · exact hid.1 nid (List.mem_append.2 h) hn)
    refine does_value (run_builtin hop hcb (cs := #[]) fun q => ?_) h9
    simp [builtin, hx', ht', h8]
end
end Go.Dn
/- copy; pointers that are boxed: the operations. -/
set_option linter.unusedVariables false
namespace Go.Dn
section
variable {X : Cx} {β : Nat → Pl} {D : Nat → Prop} {S : Nat → CS} {Z : CS} {sl : Nat → DV} {ob : Nat → OB} {outs : List CV} {a : Act} {w : World}

/-- What copy writes into. -/
structure ToOk (β : Nat → Pl) (D : Nat → Prop) (ob : Nat → OB) (e : K) (v : Value) (o : Nat) (off len : Int) (d : Bool) (l : List e.T) : Prop where
  dom : D o
  ob : ob o = .arr e d false l
  v : ∃ A' c', v = .slice A' len.toNat c' ∧ len.toNat ≤ c' ∧ (c' = 0 ∨ A' = (β o).A.map (·.add (off.toNat * e.n)))
  o0 : 0 ≤ off
  l0 : 0 ≤ len
  le : off + len ≤ l.length
theorem copyTo_sound (hr : RelAt X β D S Z sl ob outs a w) {e : K} {c : CV} {v : Value} {x : Nat × Int × Int × Bool × List e.T} (hd : VR X β D Z w c v) (he : (copyTo e c).ev ob = some x) :
    ToOk β D ob e v x.1 x.2.1 x.2.2.1 x.2.2.2.1 x.2.2.2.2 := by
  unfold copyTo at he
  split at he
  · rename_i o
    obtain ⟨hD, hv⟩ := hd
    have hob := hr.objs o
    simp only [M.ev] at he
    split at he
    · rename_i e' d l ho
      obtain ⟨l', h1, h2⟩ := ev_bind_some he
      obtain ⟨rfl, rfl⟩ := ev_castL h1
      cases h2
      rw [ho] at hob
      obtain ⟨h3, h4, h5⟩ := hob
      refine ⟨hD, ho, ⟨(β o).A, (β o).c, by rw [hv, h3]; simp, ?_, .inr ?_⟩, Int.le_refl _, Int.natCast_nonneg _, by simp⟩
      · have := h5.cap; simp; omega
      · cases (β o).A <;> simp [Addr.add]
    · cases he
  · rename_i o off len
    obtain ⟨hD, A', c', hv, h10, h11, h12, h13, h14, h15⟩ := hd
    have hob := hr.objs o
    simp only [M.ev] at he
    split at he
    · rename_i e' d l ho
      obtain ⟨l', h1, h2⟩ := ev_bind_some he
      obtain ⟨rfl, rfl⟩ := ev_castL h1
      cases h2
      rw [ho] at hob
      obtain ⟨h3, h4, h5⟩ := hob
      exact ⟨hD, ho, ⟨A', c', hv, h13, by rw [← h4]; exact h15⟩, h10, h11, by rw [h3]; exact h12⟩
    · cases he
  · cases he
theorem take_splice {α : Type} (l v : List α) (a m N : Nat) (hv : v.length = m) (h : a + m ≤ N) (hN : N ≤ l.length) :
    (l.take a ++ v ++ l.drop (a + m)).take N = (l.take N).take a ++ v ++ (l.take N).drop (a + m) := by
  have m1 : min a l.length = a := by omega
  have m2 : min N l.length = N := by omega
  have m3 : min a N = a := by omega
  apply List.ext_getElem?
  intro i
  simp only [List.getElem?_take, List.getElem?_append, List.getElem?_drop, List.length_append, List.length_take, hv, m1, m2, m3]
  by_cases h1 : i < a
  · simp [h1, show i < a + m by omega, show i < N by omega]
  · by_cases h2 : i < a + m
    · simp [h1, h2, show i < N by omega]
    · by_cases h3 : i < N
      · simp [h1, h2, h3, show a + m + (i - (a + m)) = i by omega]
      · simp [h1, h2, h3, show a + m + (i - (a + m)) = i by omega]
theorem loadCells_part {P : Program} {A : Option Addr} {m c sz n : Nat} {us : List Value} (hn : n * sz ≤ us.length) (hz : n = 0 ∨ (∃ g off, A = some ⟨g, off, none⟩ ∧ ∀ (j : Nat) u, us[j]? = some u → w.cell? ⟨g, off + j, none⟩ = some u)) :
    (Builtin.firstCells sz n (.slice A m c)).run P w = .ok (us.take (n * sz)).toArray w := by
  rcases hz with rfl | ⟨g, off, rfl, h1⟩
  · rw [Nat.zero_mul, List.take_zero]
    cases A with
    | none => rfl
    | some A =>
      show (loadCells A (0 * sz)).run P w = _
      rw [Nat.zero_mul]; rfl
  · show (loadCells ⟨g, off, none⟩ (n * sz)).run P w = _
    have hl : (us.take (n * sz)).length = n * sz := by simp; omega
    have := run_loadCells_list (P := P) w ⟨g, off, none⟩ (us.take (n * sz)) fun j v hj => by
      rw [addr_add]
      rw [take_get] at hj
      split at hj
      · exact h1 j v hj
      · cases hj
    rw [hl] at this
    exact this
theorem op_copy (hr : RelAt X β D S Z sl ob outs a w) {o : Oper} {cl : Call} (hop : o.op = .call cl) (hcb : cl.callee = .builtin .copy) {s x : Operand} {t u : TypeId} (hx : cl.args.toList = [s, x]) (hts : cl.argTypes.toList = [t, u]) {e : K} (ht : TyOk X.P (.sl e) t)
    {cs cx : CV} (hs : VR X β D Z w cs (a.eval s)) (hcx : VR X β D Z w cx (a.eval x)) {ef : Eff} (he : (copyM e cs cx).ev ob = some ef) : Does X.P o a w (After X sl ob outs a ef) := by
  have hx' : cl.args = #[s, x] := Array.toList_inj.1 (by simpa using hx)
  have ht' : cl.argTypes = #[t, u] := Array.toList_inj.1 (by simpa using hts)
  unfold copyM at he
  cases hf : e.flat with
  | false => rw [hf] at he; cases he
  | true =>
    rw [hf] at he
    simp only [cond_true] at he
    obtain ⟨y, h1, he⟩ := ev_bind_some he
    obtain ⟨z, h2, he⟩ := ev_bind_some he
    obtain ⟨r, off, len, d, l⟩ := y
    obtain ⟨ys, lent⟩ := z
    simp only [M.ev, Option.some.injEq] at he
    subst he
    obtain ⟨t', g1, g2, g3⟩ := ht.slice
    obtain ⟨T, Z', hg⟩ := sliceRd_sound hr hcx h2 .rd (.inl rfl)
    obtain ⟨A, cp, hv, h5, h6⟩ := hg.h
    simp at hv
    try simp only at h5 h6 hv
    obtain ⟨hD, hob, ⟨A', c', hv2, h7, h8⟩, h9, h10, h11⟩ := copyTo_sound hr hs h1
    try simp only at hD hob hv2 h7 h8 h9 h10 h11
    obtain ⟨n, hn⟩ : ∃ n, n = min ys.length len.toNat := ⟨_, rfl⟩
    try simp only
    rw [← hn]
    have hor := hr.objs r
    rw [hob] at hor
    obtain ⟨q1, q2, q3⟩ := hor
    -- what is read
    obtain ⟨us, k1, k2, k3⟩ : ∃ us : List Value, us.length = ys.length * e.n ∧ HL (H Z' w .rd e) ys us CS.no ∧ (n = 0 ∨ ∃ g off, A = some ⟨g, off, none⟩ ∧ ∀ (j : Nat) u, us[j]? = some u → w.cell? ⟨g, off + j, none⟩ = some u) := by
      by_cases h0 : 0 < ys.length
      · obtain ⟨g, off, us, m1, m2, m3⟩ := h6 h0
        exact ⟨us, HL.len (n := e.n) H.rlen _ _ _ m2, m2, .inr ⟨g, off, m1, fun j u hj => (m3 j u hj).2⟩⟩
      · have h6 : ys = [] := List.eq_nil_of_length_eq_zero (by omega)
        subst h6
        exact ⟨[], by simp, rfl, .inl (by simp [hn])⟩
    have hle : n * e.n ≤ us.length := by rw [k1]; exact Nat.mul_le_mul_right _ (by omega)
    have hrd := loadCells_part (P := X.P) (m := ys.length) (c := cp) (sz := e.n) hle k3
    have hrun : ∀ w', (∀ ad, A' = some ad → (storeCells ad (us.take (n * e.n))).run X.P w = .ok () w') → (A' = none → w' = w) → (execOp a.eval o).run X.P w = .ok (.value (.int .i64 (n : Int))) w' := fun w' hst hno => by
      refine run_builtin hop hcb (cs := #[]) fun q => ?_
      have hc : (Builtin.copy_ #[t, u] o.type #[.slice A' len.toNat c', .slice A ys.length cp]).run X.P w = .ok (.int .i64 (n : Int)) w' := by
        unfold Builtin.copy_
        have e1 : Nat.min ys.length len.toNat = n := hn.symm
        simp only [List.getElem?_toArray, List.getElem?_cons_zero, List.getElem?_cons_succ, Sem.run_bind, run_underlying g1, Result.andThen_ok, Builtin.lenOf, Sem.run_pure, run_sizeOf' g3, e1, hrd]
        cases A' with
        | none => rw [hno rfl]; rfl
        | some ad => simp only [Sem.run_bind, hst ad rfl, Result.andThen_ok]; rfl
      simp [builtin, hx', ht', hv, hv2, hc]
    by_cases h0 : n = 0
    · have hr0 := hrun w (fun ad _ => by rw [h0, Nat.zero_mul, List.take_zero]; rfl) (fun _ => rfl)
      refine does_value hr0 ⟨β, D, upd S r (S r), Z, ?_, rfl⟩
      have e1 : spliceL l off.toNat (ys.take n) = l := by rw [h0]; simp [spliceL]
      rw [e1]
      refine hr.set r _ (by simp) CS.no (S r) Z (CS.no_le _) (Agr.refl _ _) (CS.le.refl _) (CS.le.refl _) (fun b j z => .inl z) (hr.sz r) ?_
      exact ⟨q1, q2, q3⟩
    · have hA : A' = (β r).A.map (·.add (off.toNat * e.n)) := h8.resolve_left (by omega)
      have hpos : 0 < (β r).n := by omega
      rcases q3 with ⟨h, _⟩ | ⟨g, cur, ty, fr, S1, e1, hnc, hbk, hcs, hS, m1, m2, m3⟩
      · omega
      have hA' : A' = some ⟨g, off.toNat * e.n, none⟩ := by rw [hA, e1]; simp [addr_add]
      obtain ⟨vs, hvs⟩ : ∃ vs, vs = us.take (n * e.n) := ⟨_, rfl⟩
      have hvl : vs.length = n * e.n := by rw [hvs]; simp; omega
      have hyl : (ys.take n).length = n := by simp; omega
      have hHv : HL (H Z' w .rd e) (ys.take n) vs CS.no := by rw [hvs]; exact HL.take H.rlen _ _ _ _ k2
      have hfit : off.toNat + n ≤ (β r).n := by omega
      have hmul := Nat.mul_le_mul_right e.n hfit
      rw [Nat.add_mul] at hmul
      have hmul2 := Nat.mul_le_mul_right e.n hnc
      have hwr : ∀ j, j < vs.length → ∃ v, Wr w g (off.toNat * e.n + j) v := fun j hj => by
        have hlt : off.toNat * e.n + j < cur.size := by omega
        refine ⟨cur[off.toNat * e.n + j], by rw [cell?_of hbk.1]; simp [hlt], ?_⟩
        simp only [World.frozen?, hbk.1]
        rcases hbk.2 with h | h <;> simp <;> omega
      have hone : ∀ u ∈ vs, u.oneCell' = true := fun u hu => by
        obtain ⟨i, hi, rfl⟩ := List.getElem_of_mem hu
        have hp : 0 < e.n := by
          rcases Nat.eq_zero_or_pos e.n with h | h
          · rw [h] at hvl; omega
          · exact h
        have hdm : i / e.n < (ys.take n).length := (Nat.div_lt_iff_lt_mul hp).2 (by rw [hyl]; omega)
        obtain ⟨uu, S2, p1, p2, p3⟩ := HL.get (n := e.n) H.rlen _ vs CS.no hHv (i / e.n) (ys.take n)[i / e.n] (by rw [List.getElem?_eq_getElem hdm])
        have p4 := p3 (i % e.n) (Nat.mod_lt _ hp)
        rw [Nat.div_add_mod' i e.n, List.getElem?_eq_getElem hi] at p4
        exact H.one _ _ _ _ _ p1 _ (List.mem_of_getElem? p4.symm)
      have hst := hrun (w.setCells g (off.toNat * e.n) vs) (fun ad h => by
        rw [hA'] at h
        cases h
        have := run_storeCells_cells (P := X.P) g (off.toNat * e.n) vs 0 w (fun j hj => by obtain ⟨u, h⟩ := hwr j hj; simpa using congrArg Option.isSome h.1) (fun j hj => by obtain ⟨u, h⟩ := hwr j hj; simpa using h.2) hone
        rw [← hvs]
        simpa using this) (fun h => by rw [hA'] at h; cases h)
      have ha := Agr.setCells g vs (off.toNat * e.n) w
      have hT : CS.le (fun b' k => b' = g ∧ off.toNat * e.n ≤ k ∧ k < off.toNat * e.n + vs.length) (S r) := fun b' k t => t.1 ▸ hS k
      obtain ⟨cur', w1, w2⟩ := heap_setCells g vs (off.toNat * e.n) w cur ty fr hbk.1 (by omega)
      have hsz : cur'.size = cur.size := by
        have := congrArg List.length w2
        simp at this; omega
      refine does_value hst ⟨β, D, upd S r (S r), Z, ?_, rfl⟩
      refine hr.set r _ (by simp) _ (S r) Z hT ha (CS.le.refl _) (CS.le.refl _) (fun b j z => .inl z) (hr.sz r) ?_
      have hlen : (spliceL l off.toNat (ys.take n)).length = (β r).n := by
        simp only [spliceL, List.length_append, List.length_take, List.length_drop, hyl]
        omega
      refine ⟨by rw [hlen], q2, .inr ⟨g, cur', ty, fr, S1, e1, hnc, ⟨w1, hbk.2⟩, by rw [hsz]; exact hcs, hS, m1, m2, ?_⟩⟩
      have fl : ∀ (q q' : Q) (Za Zb : CS) (wa wb : World) (l : List e.T) (us : List Value) (T T' : CS), HL (H Za wa q e) l us T → HL (H Zb wb q' e) l us T' := fun q q' Za Zb wa wb l us T T' h => HL.read (fun x u S T hx => H.flat e q q' x u S T hf hx) _ _ _ _ h
      have p1 := HL.take H.rlen off.toNat _ _ _ m3
      have p2 := HL.drop H.rlen (off.toNat + n) _ _ _ m3
      have p3 := HL.app _ _ _ _ CS.no CS.no CS.no (fl _ .rd Z Z w w _ _ _ CS.no p1) (fl .rd .rd Z' Z w w _ _ _ CS.no hHv) (Sep.none _)
      have p4 := HL.app _ _ _ _ CS.no CS.no CS.no p3 (fl _ .rd Z Z w w _ _ _ CS.no p2) (Sep.none _)
      have e5 : spliceL l off.toNat (ys.take n) = l.take off.toNat ++ ys.take n ++ l.drop (off.toNat + n) := by
        simp only [spliceL, hyl]
      have e6 : (cur'.toList).take ((β r).n * e.n) = ((cur.toList.take ((β r).n * e.n)).take (off.toNat * e.n)) ++ vs ++ (cur.toList.take ((β r).n * e.n)).drop ((off.toNat + n) * e.n) := by
        rw [w2, Nat.add_mul, hvl]
        exact take_splice _ _ _ _ _ hvl hmul (by simp; omega)
      rw [e5, e6]
      exact fl _ _ _ _ _ _ _ _ _ _ p4
theorem op_ptrBox (hr : RelAt X β D S Z sl ob outs a w) {o : Oper} {t : TypeId} {x : Operand} (hop : o.op = .box t x) {c : CV} (hd : VR X β D Z w c (a.eval x)) {nid : Nat} {e : Eff} (he : (ptrBox nid c).ev ob = some e) : Does X.P o a w (After X sl ob outs a e) := by
  unfold ptrBox at he
  split at he
  · rename_i κ y i
    obtain ⟨h1, h2⟩ := ev_newM he
    cases h2
    refine op_box hr hop (cs := [.fel κ y i]) ?_ nid h1
    obtain ⟨b, off, us, hv, h3⟩ := hd
    rw [hv]
    exact ⟨⟨b, off, us, rfl, h3⟩, trivial⟩
  · cases he
theorem run_isAgg_at {P : Program} {t : TypeId} {d : TypeDesc} (h1 : P.underlying t = some d) (h2 : (match d with | .struct _ | .array _ _ => true | _ => false) = false) (w : World) : (isAgg t).run P w = .ok false w := by
  rw [← h2]
  unfold isAgg
  simp only [Sem.run_bind, run_underlying h1, Result.andThen_ok]
  split <;> simp_all
theorem op_ptrLoad (hr : RelAt X β D S Z sl ob outs a w) {E : Env} (hE : TysOk X.P E) {o : Oper} {t : TypeId} {x : Operand} (hop : o.op = .load t x) (hpt : ptrTy E t = true) {c : CV} (hd : VR X β D Z w c (a.eval x)) {e : Eff} (he : (ptrCell c).ev ob = some e) : Does X.P o a w (After X sl ob outs a e) := by
  have hagg : (isAgg t).run X.P w = .ok false w := by
    unfold ptrTy at hpt
    split at hpt
    · rename_i b hb
      rcases hE.2 t b hb with ⟨t', i, h1, _⟩ | ⟨t', h1⟩
      · exact run_isAgg_at h1 rfl w
      · exact run_isAgg_at h1 rfl w
    · cases hpt
  have fin : ∀ (b off : Nat) (u : Value) (κ : K) (y : κ.T) (i : Nat), a.eval x = .pointer (some ⟨b, off, none⟩) → w.cell? ⟨b, off, none⟩ = some u → VR X β D Z w (.fel κ y i) u → Does X.P o a w (After X sl ob outs a (.e2 (.v false [.fel κ y i]) [])) := fun b off u κ y i hv hc hu => by
    have hrun : (execOp a.eval o).run X.P w = .ok (.value u) w := by
      unfold execOp; rw [hop]
      simp [Instr.loadAt, Instr.sureAddr, hv, loadVar, hagg, hc]
    have hdr : DR (VR X β D Z w) (.v false [.fel κ y i]) u := hu
    exact does_value hrun (after_pure hr hdr)
  unfold ptrCell at he
  split at he
  · rename_i r j
    obtain ⟨hD, hv⟩ := hd
    have hob := hr.objs r
    simp only [M.ev] at he
    split at he
    · rename_i cs hcs
      rw [hcs] at hob
      split at he
      · rename_i κ y i hcell
        obtain ⟨_, v, h1, h2⟩ := hob j _ hcell
        rw [ev_ret1 he]
        exact fin _ _ v κ y i hv h1.1 h2
      · cases he
    · cases he
  · rename_i κ y
    obtain ⟨b, off, b', off', us, hv, h0, h0', h2, h3⟩ := hd
    rw [ev_ret1 he]
    exact fin b off _ κ y 0 hv h0 ⟨b', off', us, rfl, h2, h3⟩
  · cases he
end
end Go.Dn
/- Structs and slices built of parts; closures. -/
set_option linter.unusedVariables false
namespace Go.Dn
theorem All2.of_get {α β : Type} {R : α → β → Prop} : ∀ (xs : List α) (ys : List β), xs.length = ys.length → (∀ (i : Nat) x y, xs[i]? = some x → ys[i]? = some y → R x y) → All2 R xs ys
  | [], [], _, _ => trivial
  | x :: xs, y :: ys, h, hr => ⟨hr 0 x y rfl rfl, All2.of_get xs ys (by simpa using h) fun i a b ha hb => hr (i + 1) a b (by simpa using ha) (by simpa using hb)⟩
  | [], _ :: _, h, _ => by simp at h
  | _ :: _, [], h, _ => by simp at h
theorem fold_size (off : Nat) : ∀ (vs : List Value) (k : Nat) (cells : Array Value), ((vs.zipIdx k).foldl (fun cs x => cs.setIfInBounds (off + x.2) x.1) cells).size = cells.size
  | [], k, cells => rfl
  | v :: vs, k, cells => by simp [List.zipIdx_cons, fold_size off vs (k + 1)]
theorem fold_get (off : Nat) : ∀ (vs : List Value) (k : Nat) (cells : Array Value) (i : Nat), off + k + vs.length ≤ cells.size →
    ((vs.zipIdx k).foldl (fun cs x => cs.setIfInBounds (off + x.2) x.1) cells)[i]? = if off + k ≤ i ∧ i < off + k + vs.length then vs[i - (off + k)]? else cells[i]?
  | [], k, cells, i, h => by rw [if_neg (by simp)]; rfl
  | v :: vs, k, cells, i, h => by
    simp only [List.length_cons] at h ⊢
    rw [List.zipIdx_cons, List.foldl_cons, fold_get off vs (k + 1) _ i (by simp; omega)]
    by_cases h1 : i = off + k
    · subst h1
      rw [if_neg (by omega), if_pos (by omega)]
      simp [show off + k < cells.size by omega]
    · by_cases h2 : off + (k + 1) ≤ i ∧ i < off + (k + 1) + vs.length
      · rw [if_pos h2, if_pos (by omega), show i - (off + k) = (i - (off + (k + 1))) + 1 by omega, List.getElem?_cons_succ]
      · rw [if_neg h2, if_neg (by omega), Array.getElem?_setIfInBounds_ne (by omega)]
section
variable {X : Cx} {β : Nat → Pl} {D : Nat → Prop} {S : Nat → CS} {Z : CS} {sl : Nat → DV} {ob : Nat → OB} {outs : List CV} {a : Act} {w : World}
theorem fill_sound {st : St} (hr : RelAt X β D S Z sl ob outs a w) (hs : st.slot = sl) (place place' : Nat → Option (Nat × Nat)) (hp : ∀ i p, place i = some p → place' i = some p) : ∀ (parts : List (Nat × Operand)) (cs cs' : List CV) (cells : Array Value),
    (layParts place cs (parts.map fun p => (p.1, st.eval p.2))).ev ob = some cs' → All2 (VR X β D Z w) cs cells.toList → ∃ cells', Instr.fill place' cells (parts.map fun p => (p.1, a.eval p.2)) = some cells' ∧ All2 (VR X β D Z w) cs' cells'.toList
  | [], cs, cs', cells, h, hall => by cases h; exact ⟨cells, rfl, hall⟩
  | (i, x) :: r, cs, cs', cells, h, hall => by
    simp only [List.map_cons, layParts] at h
    obtain ⟨xs, h1, h2⟩ := ev_bind_some h
    obtain ⟨h3, _⟩ := dr_cells (hr.eval st hs x) h1
    split at h2
    · rename_i p hpl
      cases hc : (Nat.beq xs.length p.2 && Nat.ble (p.1 + xs.length) cs.length) with
      | false => rw [hc] at h2; cases h2
      | true =>
        rw [hc] at h2
        simp only [Bool.and_eq_true] at hc
        have e1 := Nat.eq_of_beq_eq_true hc.1
        have e2 := Nat.le_of_ble_eq_true hc.2
        have l1 := h3.len
        have l2 := hall.len
        have hsz : (a.eval x).cells.size = p.2 := by rw [← e1, l1]; simp
        simp at l1 l2
        have hall' : All2 (VR X β D Z w) (splice cs p.1 xs) ((a.eval x).cells.zipIdx.foldl (fun cs x => cs.setIfInBounds (p.1 + x.2) x.1) cells).toList := by
          have hf : ((a.eval x).cells.zipIdx.foldl (fun cs x => cs.setIfInBounds (p.1 + x.2) x.1) cells) = (((a.eval x).cells.toList.zipIdx 0).foldl (fun cs x => cs.setIfInBounds (p.1 + x.2) x.1) cells) := by
            rw [← Array.foldl_toList]; simp
          rw [hf]
          refine All2.of_get _ _ ?_ fun k c v hk hv => ?_
          · rw [splice_len]; simp [fold_size, l2]
          · rw [splice_get _ _ _ _ e2] at hk
            rw [Array.getElem?_toList, fold_get _ _ _ _ _ (by simp; omega)] at hv
            by_cases hb : p.1 ≤ k ∧ k < p.1 + xs.length
            · rw [if_pos hb] at hk
              rw [if_pos (by simp; omega)] at hv
              obtain ⟨y, h5, h6⟩ := All2.get _ _ h3 _ _ hk
              rw [Nat.add_zero] at hv
              rw [hv] at h5
              cases h5; exact h6
            · rw [if_neg hb] at hk
              rw [if_neg (by simp; omega)] at hv
              obtain ⟨y, h5, h6⟩ := All2.get _ _ hall _ _ hk
              rw [Array.getElem?_toList] at h5
              rw [hv] at h5
              cases h5; exact h6
        obtain ⟨cells', h5, h6⟩ := fill_sound hr hs place place' hp r _ cs' _ h2 hall'
        refine ⟨cells', ?_, h6⟩
        simp only [List.map_cons, Instr.fill, hp i p hpl]
        rw [if_neg (by simp [hsz]; omega)]
        exact h5
    · cases h2

theorem fields_places {P : Program} : ∀ (κ : K) (fs : List Field) (off : Nat), (TyR P κ).2 fs off → ∃ places, fs.mapM (fun f => (P.info? f.type).map fun i => (f.offset, i.size)) = some places ∧ ∀ i f, fieldK κ i = some f → places[i]? = some (off + κ.off i, f.n)
  | .unit, fs, off, h => by
    have h' : fs = [] := h
    subst h'
    exact ⟨[], rfl, fun i f hf => by simp [fieldK] at hf⟩
  | .pair a b, fs, off, h => by
    obtain ⟨f, r, rfl, h1, h2, h3, h4⟩ := h
    obtain ⟨places, h5, h6⟩ := fields_places b r _ h4
    obtain ⟨i, h7, h8, _⟩ := TyOk.info (κ := a) h3
    refine ⟨(off, a.n) :: places, by simp [h7, h5, h1, h8], fun k g hk => ?_⟩
    cases k with
    | zero => simp only [fieldK, Option.some.injEq] at hk; subst hk; simp [K.off]
    | succ k =>
      simp only [fieldK] at hk
      rw [List.getElem?_cons_succ, h6 k g hk]
      simp only [K.off]
      rw [Nat.add_assoc]
  | .int _, _, _, h => h.elim
  | .bool, _, _, h => h.elim
  | .str, _, _, h => h.elim
  | .sl _, _, _, h => h.elim
theorem op_build {st : St} (hr : RelAt X β D S Z sl ob outs a w) (hs : st.slot = sl) {o : Oper} {t : TypeId} {ps : Array (Nat × Operand)} (hop : o.op = .build t ps) {κ : K} (ht : TyOk X.P κ t) (hk : κ.agg = true) {cs : List CV}
    (he : (layParts (fun i => (fieldK κ i).map fun f => (κ.off i, f.n)) κ.zcvs (ps.toList.map fun p => (p.1, st.eval p.2))).ev ob = some cs) : Does X.P o a w (After X sl ob outs a (.e2 (.v true cs) [])) := by
  cases κ with
  | pair x y =>
    obtain ⟨fs, f, r, h1, ⟨i, h2, h3, h4, _⟩, h5, h6, h7, h8, h9⟩ := ht
    obtain ⟨places, h10, h11⟩ := fields_places (P := X.P) (.pair x y) fs.toList 0 ⟨f, r, h5, h6, h7, h8, by simpa using h9⟩
    have hz : All2 (VR X β D Z w) (K.pair x y).zcvs ((x.zvs ++ y.zvs).toArray).toList := zvs_vr (K.pair x y)
    obtain ⟨cells, h12, h13⟩ := fill_sound hr hs _ (places.toArray[·]?) (fun i p hp => by
      obtain ⟨g, hg, rfl⟩ := Option.map_eq_some_iff.1 hp
      have := h11 i g hg
      rw [Nat.zero_add] at this
      simpa using this) ps.toList _ cs _ he hz
    have hb : X.P.built t (ps.map fun p => (p.1, a.eval p.2)).toList = some cells := by
      unfold Program.built
      simp only [h2, h1, h4, h10]
      have e1 : (ps.map fun p => (p.1, a.eval p.2)).toList = ps.toList.map fun p => (p.1, a.eval p.2) := by simp
      rw [e1]
      exact h12
    have hrun := run_build (P := X.P) w t _ cells hb
    refine does_value (v := .agg cells) (w' := w) ?_ (after_pure hr ⟨cells, rfl, h13⟩)
    unfold execOp; rw [hop]
    simp only [Sem.run_bind, hrun, Result.andThen_ok, Sem.run_pure]
  | unit => exact ht.elim
  | _ => cases hk
theorem op_makeFunc (hr : RelAt X β D S Z sl ob outs a w) {st : St} (hs : st.slot = sl) {o : Oper} {f : FuncId} {fs cs : Array Operand} (hop : o.op = .makeFunc (.func f) fs cs) (h0 : fs.size = 0) {l : List (Nat × Nat)} (he : (capsM (cs.toList.map st.eval)).ev ob = some l) :
    Does X.P o a w (After X sl ob outs a (.e2 (.v false [.clo f l]) [])) := by
  have key : ∀ (xs : List Operand) (l : List (Nat × Nat)), (capsM (xs.map st.eval)).ev ob = some l → xs.map a.eval = l.map (fun c => Value.pointer (some ⟨(β c.1).b, (β c.1).j + c.2, none⟩)) ∧ ∀ c ∈ l, D c.1 := by
    intro xs
    induction xs with
    | nil => intro l h; cases h; exact ⟨rfl, fun c hc => by cases hc⟩
    | cons x xs ih =>
      intro l h
      have hd := hr.eval st hs x
      simp only [List.map_cons] at h
      cases e : st.eval x with
      | tup ds => rw [e] at h; cases h
      | v ag q =>
        rw [e] at h hd
        cases ag with
        | true => cases h
        | false =>
          match q, h, hd with
          | [], h, hd => cases h
          | _ :: _ :: _, h, hd => simp [capsM, M.ev] at h
          | [c], h, hd =>
            cases c <;> try (cases h; done)
            rename_i o' j
            simp only [capsM] at h
            obtain ⟨l', h3, h4⟩ := ev_bind_some h
            cases h4
            obtain ⟨h5, h6⟩ := ih l' h3
            obtain ⟨hD, hv⟩ := (hd : VR X β D Z w (.box o' j) _)
            exact ⟨by simp [hv, h5], fun c hc => by
              rcases List.mem_cons.1 hc with rfl | hc
              · exact hD
              · exact h6 c hc⟩
  obtain ⟨h1, h2⟩ := key cs.toList l he
  refine does_value (v := .func (.func f) #[] (l.map (fun c => Value.pointer (some ⟨(β c.1).b, (β c.1).j + c.2, none⟩))).toArray) (w' := w) ?_ (after_pure hr ⟨rfl, h2⟩)
  unfold execOp; rw [hop]
  have e1 : fs.map a.eval = #[] := by
    have : fs = #[] := Array.eq_empty_of_size_eq_zero h0
    subst this; simp
  have e2 : cs.map a.eval = (l.map (fun c => Value.pointer (some ⟨(β c.1).b, (β c.1).j + c.2, none⟩))).toArray := by
    apply Array.toList_inj.1
    simpa using h1
  simp only [Instr.makeFunc, e1, e2, Sem.run_bind, Sem.run_pure, Result.andThen_ok]

theorem elems_sound (hr : RelAt X β D S Z sl ob outs a w) {q : Q} {e : K} : ∀ (n : Nat) (cs : List CV) (us : List Value) (g : Got (List e.T)), (elemsM q e n cs).ev ob = some g → All2 (VR X β D Z w) cs us → g.dead.Nodup → (∀ o ∈ g.lent, o ∉ g.dead) →
    g.x.length = n ∧ ∃ T Z', HL (H Z' w q e) g.x us T ∧ T.le (US S g.dead) ∧ Z.le Z' ∧ Z'.le (Z.or (US S (g.dead ++ g.lent))) ∧ T.apart Z'
  | 0, cs, us, g, h, hall, hnd, hap => by
    cases cs with
    | cons c cs => cases h
    | nil =>
      cases h
      match us, hall with
      | [], _ => exact ⟨rfl, CS.no, Z, rfl, CS.no_le _, CS.le.refl _, CS.le_l _ _, fun _ _ h => h.elim⟩
      | _ :: _, hall => exact (hall : False).elim
  | n + 1, cs, us, g, h, hall, hnd, hap => by
    have h : ((e.ofCvs q cs).bind fun x => (elemsM q e n x.rest).bind fun y => .ret (⟨x.x :: y.x, [], x.dead ++ y.dead, x.lent ++ y.lent⟩ : Got (List e.T))).ev ob = some g := by
      cases cs <;> exact h
    obtain ⟨x, h1, h2⟩ := ev_bind_some h
    obtain ⟨y, h3, h4⟩ := ev_bind_some h2
    cases h4
    simp only at hnd hap
    have n1 := List.nodup_append.1 hnd
    obtain ⟨us1, us2, T1, Z1, rfl, h5, h6⟩ := ofCvs_sound hr e q cs us x h1 hall n1.1 (fun o ho h => hap o (List.mem_append.2 (.inl ho)) (List.mem_append.2 (.inl h)))
    obtain ⟨h7, T2, Z2, h8, t2, z2, z2', d2⟩ := elems_sound hr n _ us2 y h3 h5 n1.2.1 (fun o ho h => hap o (List.mem_append.2 (.inr ho)) (List.mem_append.2 (.inr h)))
    have hdd : ∀ o ∈ x.dead, o ∉ y.dead := fun o h h' => n1.2.2 o h o h' rfl
    have a12 : T1.apart Z2 := fun b j t z => by
      rcases z2' b j z with z | ⟨o, ho, z⟩
      · exact US.apartZ hr x.dead b j (h6.t b j t) z
      · refine US.apart hr (l := x.dead) (r := y.dead ++ y.lent) (fun o h h' => ?_) b j (h6.t b j t) ⟨o, ho, z⟩
        rcases List.mem_append.1 h' with h' | h'
        · exact hdd o h h'
        · exact hap o (List.mem_append.2 (.inr h')) (List.mem_append.2 (.inl h))
    have a21 : T2.apart Z1 := fun b j t z => by
      rcases h6.z' b j z with z | ⟨o, ho, z⟩
      · exact US.apartZ hr y.dead b j (t2 b j t) z
      · refine US.apart hr (l := y.dead) (r := x.dead ++ x.lent) (fun o h h' => ?_) b j (t2 b j t) ⟨o, ho, z⟩
        rcases List.mem_append.1 h' with h' | h'
        · exact hdd o h' h
        · exact hap o (List.mem_append.2 (.inl h')) (List.mem_append.2 (.inr h))
    refine ⟨by simp [h7], T1.or T2, Z1.or Z2, ⟨us1, us2, T1, T2, rfl, H.more (CS.le_l _ _) _ _ _ _ _ h6.h, HL.imp _ _ _ (fun y u S3 _ hy => H.more (CS.le_r _ _) _ _ _ _ _ hy) h8, CS.le_l _ _, CS.le_r _ _, (US.apart hr hdd).mono h6.t t2⟩, ?_, h6.z.trans (CS.le_l _ _), ?_, CS.or_apart (CS.apart_or h6.d a12) (CS.apart_or a21 d2)⟩
    · exact CS.or_le (h6.t.trans (US.le fun o h => List.mem_append.2 (.inl h))) (t2.trans (US.le fun o h => List.mem_append.2 (.inr h)))
    · refine CS.or_le (h6.z'.trans (CS.or_le (CS.le_l _ _) ((US.le fun o h => ?_).trans (CS.le_r _ _)))) (z2'.trans (CS.or_le (CS.le_l _ _) ((US.le fun o h => ?_).trans (CS.le_r _ _))))
      · simp only [List.mem_append] at h ⊢; rcases h with h | h <;> simp [h]
      · simp only [List.mem_append] at h ⊢; rcases h with h | h <;> simp [h]
theorem rep_vr (κ : K) : ∀ n, All2 (VR X β D Z w) (repCVs κ.zcvs n) (repV κ.zvs n)
  | 0 => trivial
  | n + 1 => All2.app _ _ _ _ (zvs_vr κ) (rep_vr κ n)
end
end Go.Dn
/- Structs and slices built of parts; closures. -/
set_option linter.unusedVariables false
namespace Go.Dn
section
variable {X : Cx} {β : Nat → Pl} {D : Nat → Prop} {S : Nat → CS} {Z : CS} {sl : Nat → DV} {ob : Nat → OB} {outs : List CV} {a : Act} {w : World}
theorem op_buildSlice {st : St} (hr : RelAt X β D S Z sl ob outs a w) (hs : st.slot = sl) {o : Oper} {t : TypeId} {n : Nat} {ps : Array (Nat × Operand)} (hop : o.op = .buildSlice t n ps) {e : K} (ht : TyOk X.P (.sl e) t) {cs : List CV} {own : Bool} {g : Got (List e.T)} {u : List (Nat × OB)} {nid : Nat} (hn : ob nid = .non)
    (h1 : (layParts (fun i => some (i * e.n, e.n)) (repCVs e.zcvs n) (ps.toList.map fun p => (p.1, st.eval p.2))).ev ob = some cs) (h2 : (elemsM (bif own then .dp else .rd) e n cs).ev ob = some g) (h3 : nodupN g.dead = true) (h4 : apartN g.lent g.dead = true) (h5 : n * e.n ≤ 16777216)
    (hu : (Dn.freezeAll g.lent).ev ob = some u) (hnid : nid ∉ g.dead ++ g.lent) :
    Does X.P o a w (After X sl ob outs a (.e2 (.v false [.arr nid]) (killAll g.dead ++ u ++ [(nid, .arr e own false g.x)]))) := by
  obtain ⟨t', k1, k2, k3⟩ := ht.slice
  have hz : All2 (VR X β D Z w) (repCVs e.zcvs n) ((repV e.zvs n).toArray).toList := rep_vr e n
  obtain ⟨cells, h6, h7⟩ := fill_sound hr hs _ (fun i => some (i * e.n, e.n)) (fun i p hp => hp) ps.toList _ cs _ h1 hz
  obtain ⟨h8, T, Z', h9, h10, h11, h12, h13⟩ := elems_sound hr n cs _ g h2 h7 (nodupN_ok h3) (apartN_ok h4)
  have hused := hr.used hu (apartN_ok h4)
  have uF : ∀ (l : List Nat) b j, US S l b j → X.F b j ∧ b < w.heap.size := fun l b j ⟨o, _, s⟩ => ⟨(hr.sin o).1 b j s, (hr.sin o).2 b j s⟩
  have aO : ∀ (o : Nat) (l : List Nat), (∀ i ∈ l, i ∈ g.dead ++ g.lent) → (Sno S (g.dead ++ g.lent) o).apart (US S l) := fun o l hl b j s ⟨i, hi, s2⟩ => by
    by_cases h : o ∈ g.dead ++ g.lent
    · rw [Sno_in h] at s; exact s
    · rw [Sno_out h] at s
      exact hr.apart o i (fun e => h (e ▸ hl i hi)) b j s s2
  have hm := hused.more ((Z.or (US S g.lent)).or Z') (CS.le_l _ _) (fun o b j s z => by
    rcases z with z | z
    · exact hused.sz o b j s z
    · rcases h12 b j z with z | z
      · exact hused.sz o b j s (.inl z)
      · exact aO o _ (fun i h => h) b j s z) (fun b j z => by
    rcases z with z | z
    · exact hused.zin b j z
    · rcases h12 b j z with z | z
      · exact hr.zin b j z
      · exact .inr (uF _ b j z).1) (fun b j z => by
    rcases z with z | z
    · exact hused.zbd b j z
    · rcases h12 b j z with z | z
      · exact hr.zbd b j z
      · exact (uF _ b j z).2)
  have hob' : (updAll ob (killAll g.dead ++ u)) nid = .non := by
    rw [updAll_out _ _ _ fun x hx e => ?_]
    · exact hn
    · rcases List.mem_append.1 hx with hx | hx
      · obtain ⟨o, ho, rfl⟩ := List.mem_map.1 hx
        exact hnid (by rw [← e]; exact List.mem_append.2 (.inl ho))
      · exact hnid (by rw [← e]; exact List.mem_append.2 (.inr (freeze_ids _ _ hu x hx)))
  have hlen := HL.len (n := e.n) H.rlen _ _ _ h9
  rw [h8] at hlen
  have hq : (bif own then Q.dp else Q.rd) = qd own := rfl
  obtain ⟨β', D', S', Z2, hA, hV⟩ := arr_new hm (e := e) (d := own) (l := g.x) (us := cells.toList) (rest := []) (T := T) t' n nid hob' (by rw [h8]; exact Nat.le_refl _) (by rw [h8]; exact hlen) (by simp only [List.append_nil]; omega)
    (HL.imp _ _ _ (fun y v S3 _ hy => H.more (CS.le_r _ _) _ _ _ _ _ hy) h9) (fun b j t => (uF _ b j (h10 b j t)).1) (fun b j t => (uF _ b j (h10 b j t)).2)
    (fun b j t z => by
      rcases z with (z | z) | z
      · exact US.apartZ hr g.dead b j (h10 b j t) z
      · exact US.apart hr (fun o h h' => apartN_ok h4 o h' h) b j (h10 b j t) z
      · exact h13 b j t z) (fun o b j t s => aO o g.dead (fun i h => List.mem_append.2 (.inl h)) b j s (h10 b j t)) _ (0, 0) (.inr (Nat.le_refl _)) (Agr.alloc CS.no w (.cells (cells.toList ++ []).toArray t')) (heap_alloc_new w _)
  refine does_value (v := .slice (some ⟨w.heap.size, 0, none⟩) n n) ?_ ⟨β', D', S', Z2, ?_, by rw [h8] at hV; exact hV⟩
  rotate_left 1
  · rw [show (Eff.e2 (.v false [.arr nid]) (killAll g.dead ++ u ++ [(nid, .arr e own false g.x)])).upd = (killAll g.dead ++ u) ++ [(nid, .arr e own false g.x)] from rfl, updAll_app]
    exact hA
  · unfold execOp; rw [hop]
    have hz2 : ((Array.range (n * e.n)).map (fun i => e.zvs.toArray[i % e.zvs.toArray.size]!)) = (repV e.zvs n).toArray := zeroRow k2 n
    obtain ⟨inf, f1, f2, f3, _⟩ := k3.info
    have hbig : ¬ (n * e.n > 2 ^ 24) := by omega
    have hfill : Instr.fill (fun i => some (i * e.n, e.n)) (repV e.zvs n).toArray (ps.map fun p => (p.1, a.eval p.2)).toList = some cells := by
      rw [Array.toList_map]; exact h6
    have hc : (cells.toList ++ []).toArray = cells := by simp
    rw [hc]
    by_cases h0 : n * e.n = 0
    · have h00 : n = 0 := by
        rcases Nat.mul_eq_zero.1 h0 with h | h
        · exact h
        · omega
      subst h00
      have hr0 : (Array.range 0).map (fun i => (#[] : Array Value)[i % (#[] : Array Value).size]!) = (repV e.zvs 0).toArray := by simp [repV]
      simp only [Nat.zero_mul] at hbig
      simp only [Sem.run_bind, Instr.buildSlice, run_underlying k1, Result.andThen_ok, run_sizeOf' k3, hbig, if_false, Nat.zero_mul, if_true, Sem.run_pure, hr0, hfill, newRow, newObj]
      rfl
    · simp only [Sem.run_bind, Instr.buildSlice, run_underlying k1, Result.andThen_ok, run_sizeOf' k3, hbig, if_false, h0, Sem.run_pure, zeroValue, typeInfo, run_program, f1, f3, zv_cells, hz2, hfill, newRow, newObj]
      rfl
end
end Go.Dn
/- What a function says of its calls. -/
set_option linter.unusedVariables false
namespace Go.Dn

/-- What a pointer that is written through points at. -/
def PtrR (Z : CS) (w : World) (q : Q) (κ : K) (x : κ.T) (b off : Nat) (T : CS) : Prop :=
  ∃ us T', H Z w q κ x us T' ∧ T'.le T ∧ ∀ (i : Nat) u, us[i]? = some u → Wr w b (off + i) u ∧ T b (off + i) ∧ ¬ T' b (off + i)
/-- The arguments; T: the memory that they own. -/
def ArgsR (P : Program) (Z W : CS) (w : World) : (ps : List PM) → Sig.In ps → List Value → CS → Prop
  | [], _, vs, _ => vs = []
  | .b κ :: ps, x, vs, T => ∃ v us r, vs = v :: r ∧ pk κ us v ∧ H Z w .rd κ x.1 us CS.no ∧ ArgsR P Z W w ps x.2 r T
  | .r κ :: ps, x, vs, T => ∃ b off us r, vs = .pointer (some ⟨b, off, none⟩) :: r ∧ H Z w .rd κ x.1 us CS.no ∧ (∀ (i : Nat) u, us[i]? = some u → w.cell? ⟨b, off + i, none⟩ = some u ∧ ¬ W b (off + i)) ∧ ArgsR P Z W w ps x.2 r T
  | .p κ i _ :: ps, x, vs, T => ∃ b off r T1 T2, vs = .pointer (some ⟨b, off, none⟩) :: r ∧ PtrR Z w i κ x.1 b off T1 ∧ ArgsR P Z W w ps x.2 r T2 ∧ Sep T T1 T2
  | .q κ i :: ps, x, vs, T => ∃ b off r T1 T2, vs = .pointer (some ⟨b, off, none⟩) :: r ∧ PtrR Z w i κ x.1 b off T1 ∧ ArgsR P Z W w ps x.2 r T2 ∧ Sep T T1 T2
  | .m κ :: ps, x, vs, T => ∃ v us r T1 T2, vs = v :: r ∧ pk κ us v ∧ H Z w .dp κ x.1 us T1 ∧ ArgsR P Z W w ps x.2 r T2 ∧ Sep T T1 T2
  | .c e d :: ps, x, vs, T => ∃ v r T1 T2, vs = v :: r ∧ H Z w (bif d then .dp else .fl) (.sl e) x.1 [v] T1 ∧ ArgsR P Z W w ps x.2 r T2 ∧ Sep T T1 T2
  | .z _ :: ps, x, vs, T => ∃ A r, vs = .slice A 0 0 :: r ∧ ArgsR P Z W w ps x r T
  | .rr κ :: ps, x, vs, T => ∃ b0 off0 b off us r, vs = .pointer (some ⟨b0, off0, none⟩) :: r ∧ w.cell? ⟨b0, off0, none⟩ = some (.pointer (some ⟨b, off, none⟩)) ∧ ¬ W b0 off0 ∧ H Z w .rd κ x.1 us CS.no ∧ (∀ (i : Nat) u, us[i]? = some u → w.cell? ⟨b, off + i, none⟩ = some u ∧ ¬ W b (off + i)) ∧ ArgsR P Z W w ps x.2 r T
  | .f a b :: ps, x, vs, T => ∃ v r, vs = v :: r ∧ FnR ⟨P, 0, W, w, Z, []⟩ a b x.1 v ∧ ArgsR P Z W w ps x.2 r T
/-- What the arguments' memory holds behind the call. -/
def OutsR (Z : CS) (w : World) : (ps : List PM) → Sig.OutP ps → List Value → CS → Prop
  | [], _, _, _ => True
  | .p κ _ q :: ps, y, vs, T => ∃ b off r T1 T2, vs = .pointer (some ⟨b, off, none⟩) :: r ∧ PtrR Z w q κ y.1 b off T1 ∧ OutsR Z w ps y.2 r T2 ∧ Sep T T1 T2
  | .m κ :: ps, y, vs, T => ∃ v us r T1 T2, vs = v :: r ∧ pk κ us v ∧ H Z w .dp κ y.1 us T1 ∧ OutsR Z w ps y.2 r T2 ∧ Sep T T1 T2
  | .b _ :: ps, y, vs, T => OutsR Z w ps y (vs.drop 1) T
  | .r _ :: ps, y, vs, T => OutsR Z w ps y (vs.drop 1) T
  | .c _ _ :: ps, y, vs, T => OutsR Z w ps y (vs.drop 1) T
  | .z _ :: ps, y, vs, T => OutsR Z w ps y (vs.drop 1) T
  | .f _ _ :: ps, y, vs, T => OutsR Z w ps y (vs.drop 1) T
  | .q _ _ :: ps, y, vs, T => OutsR Z w ps y (vs.drop 1) T
  | .rr _ :: ps, y, vs, T => OutsR Z w ps y (vs.drop 1) T
def ResR (Z : CS) (w : World) : (rs : List (K × Q)) → Sig.Res rs → List Value → CS → Prop
  | [], _, vs, _ => vs = []
  | (κ, q) :: rs, y, vs, T => ∃ v us r T1 T2, vs = v :: r ∧ pk κ us v ∧ H Z w q κ y.1 us T1 ∧ ResR Z w rs y.2 r T2 ∧ Sep T T1 T2
def resV : List Value → Value
  | [v] => v
  | vs => .tuple vs.toArray
structure Ended (Z W : CS) (w : World) (sg : Sig) (vs : List Value) (y : sg.Out) (v : Value) (w' : World) (rv : List Value) (Z' T1 T2 : CS) : Prop where
  v : v = resV rv
  agr : Agr W w w'
  z : Z.le Z'
  zb : Bd Z' w'
  zi : ∀ b j, Z' b j → Z b j ∨ W b j ∨ w.heap.size ≤ b
  res : ResR Z' w' sg.res y.1 rv T1
  out : OutsR Z' w' sg.ps y.2 vs T2
  t : T1.apart T2
  t1 : T1.apart Z'
  t2 : T2.apart Z'
  b1 : Bd T1 w'
  b2 : Bd T2 w'
  i1 : ∀ b j, T1 b j → W b j ∨ w.heap.size ≤ b
  i2 : ∀ b j, T2 b j → W b j ∨ w.heap.size ≤ b
/-- What a function does, is what F says. -/
def Contract (P : Program) (f : FuncId) (sg : Sig) (F : Sig.In sg.ps → Option sg.Out) : Prop :=
  ∃ fn, P.funcs[f]? = some fn ∧ fn.body.isSome = true ∧ (fn.name == "runtime.NumGoroutine") = false ∧
    ∀ x y, F x = some y → ∀ w Z W vs, Bd Z w → Bd W w → W.apart Z → ArgsR P Z W w sg.ps x vs W →
      Calls P f vs.toArray w fun e w' => ∃ v rv Z' T1 T2, e = .returned v ∧ Ended Z W w sg vs y v w' rv Z' T1 T2
def FnsOk (P : Program) (E : Env) (k : Nat) : Prop := ∀ f ent, findO E.fns f = some ent → Contract P f ent.sg (ent.F k)
end Go.Dn
/- What a call gives, as new objects. -/
set_option linter.unusedVariables false
namespace Go.Dn
theorem give_ids : ∀ (κ : K) (q : Q) (x : κ.T) (i : Nat), i ≤ (κ.give q x i).2.2 ∧ ∀ y ∈ (κ.give q x i).2.1, i ≤ y.1 ∧ y.1 < (κ.give q x i).2.2
  | .int _, q, x, i => by cases q <;> exact ⟨Nat.le_refl _, fun y h => by cases h⟩
  | .bool, q, x, i => by cases q <;> exact ⟨Nat.le_refl _, fun y h => by cases h⟩
  | .str, q, x, i => by cases q <;> exact ⟨Nat.le_refl _, fun y h => by cases h⟩
  | .unit, q, x, i => by cases q <;> exact ⟨Nat.le_refl _, fun y h => by cases h⟩
  | .pair a b, q, x, i => by
    obtain ⟨h1, h2⟩ := give_ids a q.l x.1 i
    obtain ⟨h3, h4⟩ := give_ids b q.r x.2 (a.give q.l x.1 i).2.2
    simp only [K.give]
    refine ⟨Nat.le_trans h1 h3, fun y hy => ?_⟩
    rcases List.mem_append.1 hy with hy | hy
    · have := h2 y hy; omega
    · have := h4 y hy; omega
  | .sl e, q, x, i => by
    cases q with
    | fl => exact ⟨Nat.le_add_right _ _, fun y h => by rcases List.mem_singleton.1 h with rfl; exact ⟨Nat.le_refl _, Nat.lt_add_of_pos_right (by decide)⟩⟩
    | dp => exact ⟨Nat.le_add_right _ _, fun y h => by rcases List.mem_singleton.1 h with rfl; exact ⟨Nat.le_refl _, Nat.lt_add_of_pos_right (by decide)⟩⟩
    | rd => exact ⟨Nat.le_refl _, fun y h => by cases h⟩
    | pr _ _ => exact ⟨Nat.le_refl _, fun y h => by cases h⟩

/-- Memory that is no one's. -/
structure Free (X : Cx) (S : Nat → CS) (Z : CS) (w : World) (T : CS) : Prop where
  f : T.le X.F
  b : Bd T w
  z : T.apart Z
  s : ∀ o, T.apart (S o)
section
variable {X : Cx} {D : Nat → Prop} {Z : CS} {sl : Nat → DV} {outs : List CV} {a : Act} {w : World}
/-- A state, more of which is known. -/
structure Grew (X : Cx) (β : Nat → Pl) (D : Nat → Prop) (S : Nat → CS) (Z : CS) (w : World) (T : CS) (β' : Nat → Pl) (D' : Nat → Prop) (S' : Nat → CS) : Prop where
  d : ∀ o, D o → D' o ∧ β' o = β o
  s : ∀ o b j, S' o b j → S o b j ∨ T b j
theorem give_sound : ∀ (κ : K) (q : Q) (x : κ.T) (i : Nat) (us : List Value) (T : CS) (β : Nat → Pl) (D : Nat → Prop) (S : Nat → CS) (ob : Nat → OB), H Z w q κ x us T → RelAt X β D S Z sl ob outs a w → Free X S Z w T → (∀ y ∈ (κ.give q x i).2.1, ob y.1 = .non) →
    ∃ β' D' S', RelAt X β' D' S' Z sl (updAll ob (κ.give q x i).2.1) outs a w ∧ All2 (VR X β' D' Z w) (κ.give q x i).1 us ∧ Grew X β D S Z w T β' D' S'
  | .int k, q, x, i, us, T, β, D, S, ob, h, hr, hf, hn => by
    have e : K.give q (.int k) x i = ([.int k x], [], i) := by cases q <;> rfl
    rw [e]
    simp only [H] at h; subst h
    exact ⟨β, D, S, hr, ⟨rfl, trivial⟩, fun o d => ⟨d, rfl⟩, fun o b j s => .inl s⟩
  | .bool, q, x, i, us, T, β, D, S, ob, h, hr, hf, hn => by
    have e : K.give q .bool x i = ([.bool x], [], i) := by cases q <;> rfl
    rw [e]
    simp only [H] at h; subst h
    exact ⟨β, D, S, hr, ⟨rfl, trivial⟩, fun o d => ⟨d, rfl⟩, fun o b j s => .inl s⟩
  | .str, q, x, i, us, T, β, D, S, ob, h, hr, hf, hn => by
    have e : K.give q .str x i = ([.str x], [], i) := by cases q <;> rfl
    rw [e]
    simp only [H] at h; subst h
    exact ⟨β, D, S, hr, ⟨rfl, trivial⟩, fun o d => ⟨d, rfl⟩, fun o b j s => .inl s⟩
  | .unit, q, x, i, us, T, β, D, S, ob, h, hr, hf, hn => by
    have e : K.give q .unit x i = ([], [], i) := by cases q <;> rfl
    rw [e]
    simp only [H] at h; subst h
    exact ⟨β, D, S, hr, trivial, fun o d => ⟨d, rfl⟩, fun o b j s => .inl s⟩
  | .pair κ κ', q, x, i, us, T, β, D, S, ob, h, hr, hf, hn => by
    obtain ⟨u, u', T1, T2, rfl, h1, h2, hs⟩ := h
    have g1 := give_ids κ q.l x.1 i
    have g2 := give_ids κ' q.r x.2 (κ.give q.l x.1 i).2.2
    simp only [K.give] at hn ⊢
    obtain ⟨β1, D1, S1, r1, a1, w1⟩ := give_sound κ q.l x.1 i u T1 β D S ob h1 hr ⟨hs.l.trans hf.f, fun b j t => hf.b b j (hs.l b j t), hf.z.mono hs.l (CS.le.refl _), fun o => (hf.s o).mono hs.l (CS.le.refl _)⟩ (fun y hy => hn y (List.mem_append.2 (.inl hy)))
    obtain ⟨β2, D2, S2, r2, a2, w2⟩ := give_sound κ' q.r x.2 _ u' T2 β1 D1 S1 _ h2 r1 ⟨hs.r.trans hf.f, fun b j t => hf.b b j (hs.r b j t), hf.z.mono hs.r (CS.le.refl _), fun o b j t s => by
      rcases w1.s o b j s with s | s
      · exact hf.s o b j (hs.r b j t) s
      · exact hs.d b j s t⟩ (fun y hy => by
      rw [updAll_out _ _ _ fun z hz e => by have := (g1.2 z hz).2; have := (g2.2 y hy).1; omega]
      exact hn y (List.mem_append.2 (.inr hy)))
    refine ⟨β2, D2, S2, by rw [updAll_app]; exact r2, All2.app _ _ _ _ (All2.imp (fun c v h => h.mono w2.d (CS.le.refl _) (Agr.refl CS.no w) (fun _ _ t => t.elim) (fun _ _ t => t.elim)) _ _ a1) a2, fun o d => ?_, fun o b j s => ?_⟩
    · have := w1.d o d
      have h3 := w2.d o this.1
      exact ⟨h3.1, h3.2.trans this.2⟩
    · rcases w2.s o b j s with s | s
      · rcases w1.s o b j s with s | s
        · exact .inl s
        · exact .inr (hs.l b j s)
      · exact .inr (hs.r b j s)
  | .sl e, q, x, i, us, T, β, D, S, ob, h, hr, hf, hn => by
    have new : ∀ (d : Bool) A c, us = [.slice A x.length c] → OwnSl w e.n (HL (H Z w (bif d then .dp else .rd) e) x) A x.length c T → ob i = .non →
        ∃ β' D' S', RelAt X β' D' S' Z sl (updAll ob [(i, .arr e d false x)]) outs a w ∧ All2 (VR X β' D' Z w) [.arr i] us ∧ Grew X β D S Z w T β' D' S' := fun d A c hu hO hi => by
      refine ⟨upd β i ⟨0, 0, A, x.length, c, e.n⟩, fun o => D o ∨ o = i, upd S i T, hr.new i hi _ _ (by simp) T hf.f hf.b hf.z (fun o _ => hf.s o) ?_, ?_, fun o dd => ⟨.inl dd, upd_ne _ _ fun e => hr.dom o dd (e ▸ hi)⟩, fun o b j s => ?_⟩
      · rw [OR, upd_same]; exact ⟨rfl, rfl, hO⟩
      · subst hu; exact ⟨⟨.inr rfl, by rw [upd_same]⟩, trivial⟩
      · by_cases e : o = i
        · subst e; rw [upd_same] at s; exact .inr s
        · rw [upd_ne _ _ e] at s; exact .inl s
    cases q with
    | fl =>
      obtain ⟨A, c, hu, hO⟩ := h
      exact new false A c hu hO (hn (i, .arr e false false x) (.head _))
    | dp =>
      obtain ⟨A, c, hu, hO⟩ := h
      exact new true A c hu hO (hn (i, .arr e true false x) (.head _))
    | rd =>
      have h' := h
      obtain ⟨A, c, hu, _⟩ := h'
      subst hu
      exact ⟨β, D, S, hr, ⟨H.read _ _ _ _ _ h, trivial⟩, fun o d => ⟨d, rfl⟩, fun o b j s => .inl s⟩
    | pr p q =>
      obtain ⟨A, c, hu, h1, h2⟩ := h
      subst hu
      exact ⟨β, D, S, hr, ⟨⟨A, c, rfl, h1, h2⟩, trivial⟩, fun o d => ⟨d, rfl⟩, fun o b j s => .inl s⟩
end
end Go.Dn
/- The arguments of a call. -/
set_option linter.unusedVariables false
namespace Go.Dn

theorem rdDead : ∀ (κ : K) (cs : List CV) (g : Got κ.T) (ob : Nat → OB), (κ.ofCvs .rd cs).ev ob = some g → g.dead = []
  | .int k, cs, g, ob, h => by
    match cs with
    | [] => cases h
    | c :: cs =>
      cases c <;> try (cases h; done)
      simp only [K.ofCvs] at h
      split at h
      · cases h; rfl
      · cases h
  | .bool, cs, g, ob, h => by
    match cs with
    | [] => cases h
    | c :: cs =>
      cases c <;> try (cases h; done)
      simp only [K.ofCvs] at h
      cases h; rfl
  | .str, cs, g, ob, h => by
    match cs with
    | [] => cases h
    | c :: cs =>
      cases c <;> try (cases h; done)
      simp only [K.ofCvs] at h
      cases h; rfl
  | .unit, cs, g, ob, h => by
    simp only [K.ofCvs] at h
    cases h; rfl
  | .pair a b, cs, g, ob, h => by
    simp only [K.ofCvs] at h
    obtain ⟨x, h1, h2⟩ := ev_bind_some h
    obtain ⟨y, h3, h4⟩ := ev_bind_some h2
    cases h4
    have e1 := rdDead a _ x ob h1
    have e2 := rdDead b _ y ob h3
    simp [e1, e2]
  | .sl e, cs, g, ob, h => by
    match cs with
    | [] => cases h
    | c :: cs =>
      simp only [K.ofCvs, sliceOf] at h
      obtain ⟨x, h1, h2⟩ := ev_bind_some h
      cases h2; rfl
theorem rdDeadAll {κ : K} {cs : List CV} {g : Got κ.T} {ob : Nat → OB} (h : (κ.ofAll .rd cs).ev ob = some g) : g.dead = [] := by
  unfold K.ofAll at h
  obtain ⟨x, h1, h2⟩ := ev_bind_some h
  split at h2
  · cases h2; exact rdDead κ cs _ ob h1
  · cases h2

/-- Cells that a call may write: of boxes, of objects that it writes in their places. -/
def PAC (β : Nat → Pl) (S : Nat → CS) : List PM → List PA → CS
  | .p κ _ _ :: ps, .box o j :: pa => CS.or (fun b i => b = (β o).b ∧ (β o).j + j ≤ i ∧ i < (β o).j + j + κ.n) (PAC β S ps pa)
  | .m _ :: ps, .cells cs :: pa => CS.or (US S (placeIds cs)) (PAC β S ps pa)
  | .b _ :: ps, pa => PAC β S ps pa
  | .r _ :: ps, pa => PAC β S ps pa
  | .c _ _ :: ps, pa => PAC β S ps pa
  | .z _ :: ps, pa => PAC β S ps pa
  | .f _ _ :: ps, pa => PAC β S ps pa
  | .q _ _ :: ps, pa => PAC β S ps pa
  | _, _ => CS.no
/-- What the places are. -/
def PAL (X : Cx) (β : Nat → Pl) (D : Nat → Prop) (Z : CS) (w : World) (ob : Nat → OB) : List PM → List PA → List Value → Prop
  | [], [], _ => True
  | .p κ _ _ :: ps, .box o j :: pa, v :: vs => (D o ∧ v = .pointer (some ⟨(β o).b, (β o).j + j, none⟩) ∧ ∃ cs, ob o = .box cs ∧ (κ.n = 0 ∨ j + κ.n ≤ cs.length)) ∧ PAL X β D Z w ob ps pa vs
  | .m κ :: ps, .cells cs :: pa, v :: vs => (∃ us x, pk κ us v ∧ All2 (VR X β D Z w) cs us ∧ (κ.inPlace cs).ev ob = some x) ∧ PAL X β D Z w ob ps pa vs
  | .b _ :: ps, pa, _ :: vs => PAL X β D Z w ob ps pa vs
  | .r _ :: ps, pa, _ :: vs => PAL X β D Z w ob ps pa vs
  | .c _ _ :: ps, pa, _ :: vs => PAL X β D Z w ob ps pa vs
  | .z _ :: ps, pa, _ :: vs => PAL X β D Z w ob ps pa vs
  | .f _ _ :: ps, pa, _ :: vs => PAL X β D Z w ob ps pa vs
  | .q _ _ :: ps, pa, _ :: vs => PAL X β D Z w ob ps pa vs
  | _, _, _ => False

theorem CS.no_apart (S : CS) : CS.no.apart S := fun _ _ h => h.elim

/-- The arguments' values; FC: function values that hold for this call alone. -/
def ArgR (R : DV → Value → Prop) (FC : (p r : K) → (p.T → Option r.T) → Value → Prop) : List PM → List DV → List Value → Prop
  | _, [], [] => True
  | [], d :: ds, v :: vs => R d v ∧ All2 R ds vs
  | .f p q :: ps, d :: ds, v :: vs => (R d v ∨ ∃ g, d = .v false [.fnv p q g] ∧ FC p q g v) ∧ ArgR R FC ps ds vs
  | .b _ :: ps, d :: ds, v :: vs => R d v ∧ ArgR R FC ps ds vs
  | .r _ :: ps, d :: ds, v :: vs => R d v ∧ ArgR R FC ps ds vs
  | .p _ _ _ :: ps, d :: ds, v :: vs => R d v ∧ ArgR R FC ps ds vs
  | .m _ :: ps, d :: ds, v :: vs => R d v ∧ ArgR R FC ps ds vs
  | .c _ _ :: ps, d :: ds, v :: vs => R d v ∧ ArgR R FC ps ds vs
  | .z _ :: ps, d :: ds, v :: vs => R d v ∧ ArgR R FC ps ds vs
  | .q _ _ :: ps, d :: ds, v :: vs => R d v ∧ ArgR R FC ps ds vs
  | .rr _ :: ps, d :: ds, v :: vs => R d v ∧ ArgR R FC ps ds vs
  | _, _, _ => False

section
variable {X : Cx} {β : Nat → Pl} {D : Nat → Prop} {S : Nat → CS} {Z : CS} {sl : Nat → DV} {ob : Nat → OB} {outs : List CV} {a : Act} {w : World}

theorem part_at {R : CV → Value → Prop} {cs cs' : List CV} {us : List Value} {n j : Nat} (hc : (takeN n (cs.drop j)).ev ob = some cs') (h : All2 R cs us) {Pr : Nat → Value → Prop} (hw : ∀ (i : Nat) u, us[i]? = some u → Pr i u) :
    cs'.length = n ∧ (n = 0 ∨ j + n ≤ cs.length) ∧ ∃ us', us'.length = n ∧ All2 R cs' us' ∧ ∀ (i : Nat) u, us'[i]? = some u → Pr (j + i) u := by
  obtain ⟨rfl, h1⟩ := ev_takeN hc
  have hl := h.len
  simp at h1
  refine ⟨by simp; omega, by omega, (us.drop j).take n, by simp; omega, (h.drop j).take n, fun i u hi => ?_⟩
  rw [take_get] at hi
  split at hi
  · exact hw (j + i) u (by simpa using hi)
  · cases hi
/-- Where the cells behind a pointer lie. -/
def At (X : Cx) (S : Nat → CS) (Z : CS) (c : CV) (b j : Nat) : Prop := (∃ o ∈ ptrIds c, S o b j) ∨ Z b j ∨ ¬ X.F b j
theorem loadM_at (hr : RelAt X β D S Z sl ob outs a w) {n : Nat} {c : CV} {v : Value} {cs : List CV} (hd : VR X β D Z w c v) (he : (loadM n c).ev ob = some cs) :
    ∃ us b off, v = .pointer (some ⟨b, off, none⟩) ∧ All2 (VR X β D Z w) cs us ∧ ∀ (i : Nat) u, us[i]? = some u → w.cell? ⟨b, off + i, none⟩ = some u ∧ At X S Z c b (off + i) := by
  unfold loadM at he
  split at he
  · rename_i o j
    obtain ⟨hD, hv⟩ := hd
    have hob := hr.objs o
    simp only [M.ev] at he
    split at he
    · rename_i cs0 ho
      rw [ho] at hob
      obtain ⟨us, h1, h2⟩ := gather (R := VR X β D Z w) (w := w) (b := (β o).b) cs0 (β o).j fun i c hi => by
        obtain ⟨_, v, h1, h2⟩ := hob i c hi; exact ⟨v, h1.1, h2⟩
      obtain ⟨h3, _, us', h4, h5, h6⟩ := part_at he h1 (Pr := fun i u => w.cell? ⟨(β o).b, (β o).j + i, none⟩ = some u ∧ S o (β o).b ((β o).j + i)) fun i u hu => ⟨h2 i u hu, by
        have hl := h1.len
        have : i < cs0.length := by rw [hl]; exact (List.getElem?_eq_some_iff.1 hu).1
        exact (hob i cs0[i] (by simp [this])).1⟩
      exact ⟨us', _, _, hv, h5, fun i u hu => by
        have := h6 i u hu
        rw [← Nat.add_assoc] at this
        exact ⟨this.1, .inl ⟨o, .head _, this.2⟩⟩⟩
    · cases he
  · rename_i o i j
    obtain ⟨hD, h0, h1, A, hA, hv⟩ := hd
    have hob := hr.objs o
    simp only [M.ev] at he
    split at he
    · rename_i e d fr l ho
      rw [ho] at hob
      obtain ⟨h2, h3, h4⟩ := hob.lens
      cases fr with
      | true =>
        simp only [Bool.or_true, cond_true] at he
        obtain ⟨_, _, _, h5⟩ := hob
        rw [← h2] at h5
        obtain ⟨g, off, us, h6, h7, h8, h9⟩ := RdSl.get h5 (i := i.toNat) (by omega)
        obtain ⟨h10, _, us', h11, h12, h13⟩ := part_at he (cvs_rd e .rd (.inl rfl) _ _ _ h7) (Pr := fun k u => w.cell? ⟨g, off + i.toNat * e.n + k, none⟩ = some u ∧ Z g (off + i.toNat * e.n + k)) fun k u hu => ⟨(h9 k u hu).2, (h9 k u hu).1⟩
        rw [hA] at h6
        cases h6
        exact ⟨us', g, off + i.toNat * e.n + j, by rw [hv, addr_add, h3, Nat.add_assoc], h12, fun i u hu => by
          have := h13 i u hu
          rw [← Nat.add_assoc] at this
          exact ⟨this.1, .inr (.inl this.2)⟩⟩
      | false =>
        obtain ⟨_, _, h5⟩ := hob
        obtain ⟨g, u, S1, h6, h7, h8, _, h10, h9⟩ := el_cells h5 h2 (i := i.toNat) (by omega)
        rw [hA] at h6
        cases h6
        have hall : All2 (VR X β D Z w) (bif !d || false then e.cvs (l.getD i.toNat e.zero) else innCVs o i 0 (e.cvs (l.getD i.toNat e.zero))) u := by
          cases d with
          | true => exact cvs_dp o i e _ _ _ _ 0 h7
          | false => exact cvs_rd e .rd (.inl rfl) _ _ _ h7
        obtain ⟨h11, _, us', _, h12, h13⟩ := part_at he hall (Pr := fun k u => w.cell? ⟨g, i.toNat * e.n + k, none⟩ = some u) h9
        exact ⟨us', g, i.toNat * e.n + j, by rw [hv, addr_add, h3, Nat.zero_add], h12, fun i u hu => by
          have := h13 i u hu
          rw [← Nat.add_assoc] at this
          exact ⟨this, .inl ⟨o, .head _, h10 _⟩⟩⟩
    · cases he
  · exact (hd : False).elim
  · rename_i e x j
    obtain ⟨b, off, us, hv, h1, h2⟩ := hd
    obtain ⟨h3, _, us', _, h5, h6⟩ := part_at he (cvs_rd e .rd (.inl rfl) _ _ _ h1) (Pr := fun i u => w.cell? ⟨b, off + i, none⟩ = some u ∧ (Z b (off + i) ∨ ¬ X.F b (off + i))) fun i u hi => h2 i u hi
    exact ⟨us', _, _, hv, h5, fun i u hu => by
      have := h6 i u hu
      rw [← Nat.add_assoc] at this
      exact ⟨this.1, .inr this.2⟩⟩
  · cases he
theorem At.out (hr : RelAt X β D S Z sl ob outs a w) {c : CV} {b j : Nat} (h : At X S Z c b j) {I : List Nat} {W : CS} (hW : W.le (US S I)) (hc : ∀ o ∈ ptrIds c, o ∉ I) : ¬ W b j := fun hw => by
  obtain ⟨o, ho, hs⟩ := hW b j hw
  rcases h with ⟨o', ho', h⟩ | h | h
  · exact hr.apart o o' (fun e => hc o' ho' (e ▸ ho)) b j hs h
  · exact hr.sz o b j hs h
  · exact h ((hr.sin o).1 b j hs)
theorem US.F (hr : RelAt X β D S Z sl ob outs a w) (I : List Nat) : (US S I).le X.F := fun b j ⟨o, _, s⟩ => (hr.sin o).1 b j s
theorem FnR.sub (hr : RelAt X β D S Z sl ob outs a w) {W Z1 : CS} (hW : W.le X.F) (hZ : Z.le Z1) {p r : K} {g : p.T → Option r.T} {v : Value} (h : FnR X p r g v) : FnR ⟨X.P, 0, W, w, Z1, []⟩ p r g v := by
  obtain ⟨f, caps, fn, h1, h2, h3, h4, h5, h6⟩ := h
  refine ⟨f, caps, fn, h1, h2, h3, h4, h5, fun x y hx w1 Z2 vs ha hz hb hv => h6 x y hx w1 Z2 vs ?_ (hr.z0.trans (hZ.trans hz)) hb hv⟩
  refine hr.agr.trans ha fun b j hb t => ?_
  rcases hW b j t with h | h
  · exact h
  · omega

/-- What the arguments are. -/
structure ArgsOk (X : Cx) (G : CS → CS → Prop) (β : Nat → Pl) (D : Nat → Prop) (S : Nat → CS) (Z : CS) (ob : Nat → OB) (w : World) (ps : List PM) (ar : Args ps) (vs : List Value) (T Z' : CS) : Prop where
  t : T.le ((PAC β S ps ar.pa).or (US S ar.dead))
  tu : T.le (US S (PA.ids ar.pa ++ ar.dead))
  z : Z.le Z'
  z' : Z'.le (Z.or (US S (ar.dead ++ ar.lent)))
  d : T.apart Z'
  l : PAL X β D Z w ob ps ar.pa vs
  h : ∀ (I : List Nat) (Zc W : CS), G W Zc → (∀ o ∈ ar.bx, o ∉ I) → W.le (US S I) → Z'.le Zc → ArgsR X.P Zc W w ps ar.x vs T

theorem two_apart (hr : RelAt X β D S Z sl ob outs a w) {T1 Z2 : CS} {I1 J2 : List Nat} (h1 : T1.le (US S I1)) (h2 : Z2.le (Z.or (US S J2))) (hd : ∀ o ∈ I1, o ∉ J2) : T1.apart Z2 := fun b j t z => by
  rcases h2 b j z with z | z
  · exact US.apartZ hr I1 b j (h1 b j t) z
  · exact US.apart hr hd b j (h1 b j t) z
theorem inM_sound (hr : RelAt X β D S Z sl ob outs a w) : ∀ (κ : K) (cs : List CV) (us : List Value) (x : κ.T × List CV), (κ.inM cs).ev ob = some x → All2 (VR X β D Z w) cs us → (placeIds cs).Nodup →
    ∃ cs1 us1 us2 T, cs = cs1 ++ x.2 ∧ us = us1 ++ us2 ∧ All2 (VR X β D Z w) x.2 us2 ∧ H Z w .dp κ x.1 us1 T ∧ T.le (US S (placeIds cs1)) := by
  intro κ
  induction κ with
  | int k =>
    intro cs us x h hall hnd
    match cs, us, hall with
    | [], _, _ => cases h
    | c :: cs, [], hall => exact (hall : False).elim
    | c :: cs, u :: us, ⟨h1, h2⟩ =>
      cases c <;> try (cases h; done)
      simp only [K.inM] at h
      split at h
      · rename_i e _
        cases e
        cases h
        exact ⟨[_], [u], us, CS.no, rfl, rfl, h2, by rw [show u = .int _ _ from h1]; simp [H], CS.no_le _⟩
      · cases h
  | bool =>
    intro cs us x h hall hnd
    match cs, us, hall with
    | [], _, _ => cases h
    | c :: cs, [], hall => exact (hall : False).elim
    | c :: cs, u :: us, ⟨h1, h2⟩ =>
      cases c <;> try (cases h; done)
      simp only [K.inM] at h
      cases h
      exact ⟨[_], [u], us, CS.no, rfl, rfl, h2, by rw [show u = .bool _ from h1]; simp [H], CS.no_le _⟩
  | str =>
    intro cs us x h hall hnd
    match cs, us, hall with
    | [], _, _ => cases h
    | c :: cs, [], hall => exact (hall : False).elim
    | c :: cs, u :: us, ⟨h1, h2⟩ =>
      cases c <;> try (cases h; done)
      simp only [K.inM] at h
      cases h
      exact ⟨[_], [u], us, CS.no, rfl, rfl, h2, by rw [show u = .string _ from h1]; simp [H], CS.no_le _⟩
  | unit =>
    intro cs us x h hall hnd
    simp only [K.inM] at h
    cases h
    exact ⟨[], [], us, CS.no, rfl, rfl, hall, by simp [H], CS.no_le _⟩
  | pair p q ih1 ih2 =>
    intro cs us x h hall hnd
    simp only [K.inM] at h
    obtain ⟨y, h1, h2⟩ := ev_bind_some h
    obtain ⟨z, h3, h4⟩ := ev_bind_some h2
    cases h4
    obtain ⟨c1, u1, u2, T1, rfl, rfl, h5, h6, h7⟩ := ih1 cs us y h1 hall hnd
    have pl : ∀ l r : List CV, placeIds (l ++ r) = placeIds l ++ placeIds r := by
      intro l r
      induction l with
      | nil => rfl
      | cons c l ih => cases c <;> simp [placeIds, ih]
    rw [pl] at hnd
    obtain ⟨c2, u3, u4, T2, e1, rfl, h8, h9, h10⟩ := ih2 y.2 u2 z h3 h5 (List.nodup_append.1 hnd).2.1
    rw [e1] at hnd
    refine ⟨c1 ++ c2, u1 ++ u3, u4, T1.or T2, by rw [e1]; simp, by simp, h8, ⟨u1, u3, T1, T2, rfl, h6, h9, CS.le_l _ _, CS.le_r _ _, ?_⟩, ?_⟩
    · refine (US.apart hr (fun o ho ho' => ?_)).mono h7 h10
      rw [pl] at hnd
      exact (List.nodup_append.1 hnd).2.2 o ho o (List.mem_append.2 (.inl ho')) rfl
    · rw [pl]
      exact CS.or_le (h7.trans (US.le fun o h => List.mem_append.2 (.inl h))) (h10.trans (US.le fun o h => List.mem_append.2 (.inr h)))
  | sl e ih =>
    intro cs us x h hall hnd
    match cs, us, hall with
    | [], _, _ => cases h
    | c :: cs, [], hall => exact (hall : False).elim
    | c :: cs, u :: us, ⟨h1, h2⟩ =>
      simp only [K.inM] at h
      obtain ⟨y, h3, h4⟩ := ev_bind_some h
      cases h4
      unfold sliceIn at h3
      split at h3
      · cases h3
        obtain ⟨A, rfl⟩ := h1
        exact ⟨[_], [_], us, CS.no, rfl, rfl, h2, ⟨A, 0, rfl, .inl ⟨rfl, rfl⟩⟩, CS.no_le _⟩
      · rename_i o
        obtain ⟨hD, hv⟩ := h1
        have hob := hr.objs o
        simp only [M.ev] at h3
        split at h3
        · rename_i e' d l ho
          cases hdf : (d || e'.flat) with
          | false => rw [hdf] at h3; cases h3
          | true =>
            rw [hdf] at h3
            obtain ⟨rfl, rfl⟩ := ev_castL h3
            rw [ho] at hob
            obtain ⟨h5, h6, h7⟩ := hob
            exact ⟨[_], [u], us, S o, rfl, rfl, h2, ⟨_, _, by rw [hv, ← h5], by rw [h5]; exact ow_of (q := .dp) hdf h7⟩, US.one S o⟩
        · cases h3
      · exact (h1 : False).elim
      · cases h3
theorem args_sound (hr : RelAt X β D S Z sl ob outs a w) (G : CS → CS → Prop) : ∀ (ps : List PM) (ds : List DV) (vs : List Value) (ar : Args ps), (argsM ps ds).ev ob = some ar → ArgR (DR (VR X β D Z w)) (fun p r g v => ∀ W Zc, G W Zc → FnR ⟨X.P, 0, W, w, Zc, []⟩ p r g v) ps ds vs → (PA.ids ar.pa ++ ar.dead).Nodup → (∀ o ∈ ar.lent, o ∉ PA.ids ar.pa ++ ar.dead) →
    ∃ T Z', ArgsOk X G β D S Z ob w ps ar vs T Z' := by
  intro ps
  induction ps with
  | nil =>
    intro ds vs ar h hall hnd hap
    match ds, vs, hall with
    | [], [], _ =>
      simp only [argsM] at h
      cases h
      exact ⟨CS.no, Z, CS.no_le _, CS.no_le _, CS.le.refl _, CS.le_l _ _, CS.no_apart _, trivial, fun _ _ _ _ _ _ _ => rfl⟩
    | [], _ :: _, hall => exact (hall : False).elim
    | _ :: _, _, _ => cases h
  | cons p ps ih =>
    intro ds vs ar h hall hnd hap
    match ds, vs, hall with
    | [], [], _ => cases p <;> cases h
    | [], _ :: _, hall => cases p <;> exact (hall : False).elim
    | _ :: _, [], hall => cases p <;> exact (hall : False).elim
    | d :: ds, v :: vs, hall =>
      cases p with
      | b κ =>
        obtain ⟨hd, hall⟩ := hall
        simp only [argsM] at h
        obtain ⟨cs, h1, h2⟩ := ev_bind_some h
        obtain ⟨x, h3, h4⟩ := ev_bind_some h2
        obtain ⟨r, h5, h6⟩ := ev_bind_some h4
        cases h6
        obtain ⟨us, hp, hu⟩ := dr_as hd h1
        have e0 := rdDeadAll h3
        obtain ⟨T1, Z1, g⟩ := ofAll_sound hr h3 hu (by rw [e0]; exact .nil) (by rw [e0]; simp)
        obtain ⟨T2, Z2, k⟩ := ih ds vs r h5 hall hnd (fun o ho => hap o (List.mem_append.2 (.inr ho)))
        refine ⟨T2, Z1.or Z2, k.t, k.tu, k.z.trans (CS.le_r _ _), CS.or_le (g.z'.trans ?_) (k.z'.trans ?_), CS.apart_or ?_ k.d, k.l, fun I Zc W hG hb hW hz => ?_⟩
        · exact CS.or_le (CS.le_l _ _) (CS.le.trans (US.le fun o h => by rw [e0] at h; simp at h ⊢; exact .inr (.inl h)) (CS.le_r _ _))
        · exact CS.or_le (CS.le_l _ _) (CS.le.trans (US.le fun o h => by simp at h ⊢; rcases h with h | h; exact .inl h; exact .inr (.inr h)) (CS.le_r _ _))
        · exact two_apart hr k.tu g.z' fun o ho h => by rw [e0] at h; exact hap o (by simpa using .inl h) ho
        · exact ⟨v, us, vs, rfl, hp, H.more ((CS.le_l _ _).trans hz) _ _ _ _ _ (H.read _ _ _ _ _ g.h), k.h I Zc W hG hb hW ((CS.le_r _ _).trans hz)⟩
      | r κ =>
        obtain ⟨hd, hall⟩ := hall
        simp only [argsM] at h
        obtain ⟨c, h0, h1⟩ := ev_bind_some h
        obtain ⟨cs, h1', h2⟩ := ev_bind_some h1
        obtain ⟨x, h3, h4⟩ := ev_bind_some h2
        obtain ⟨r, h5, h6⟩ := ev_bind_some h4
        cases h6
        obtain ⟨_, hc⟩ := dr_cell hd h0
        have hc : VR X β D Z w c v := by
          rcases hc with rfl | ⟨rfl, _⟩ | hc
          · cases h1'
          · cases h1'
          · exact hc
        obtain ⟨us, b, off, hv, hu, hat⟩ := loadM_at hr hc h1'
        have e0 := rdDeadAll h3
        obtain ⟨T1, Z1, g⟩ := ofAll_sound hr h3 hu (by rw [e0]; exact .nil) (by rw [e0]; simp)
        obtain ⟨T2, Z2, k⟩ := ih ds vs r h5 hall hnd (fun o ho => hap o (List.mem_append.2 (.inr ho)))
        refine ⟨T2, Z1.or Z2, k.t, k.tu, k.z.trans (CS.le_r _ _), CS.or_le (g.z'.trans ?_) (k.z'.trans ?_), CS.apart_or ?_ k.d, k.l, fun I Zc W hG hb hW hz => ?_⟩
        · exact CS.or_le (CS.le_l _ _) (CS.le.trans (US.le fun o h => by rw [e0] at h; simp at h ⊢; exact .inr (.inl h)) (CS.le_r _ _))
        · exact CS.or_le (CS.le_l _ _) (CS.le.trans (US.le fun o h => by simp at h ⊢; rcases h with h | h; exact .inl h; exact .inr (.inr h)) (CS.le_r _ _))
        · exact two_apart hr k.tu g.z' fun o ho h => by rw [e0] at h; exact hap o (by simpa using .inl h) ho
        · exact ⟨b, off, us, vs, by rw [hv], H.more ((CS.le_l _ _).trans hz) _ _ _ _ _ (H.read _ _ _ _ _ g.h), fun i u hi => ⟨(hat i u hi).1, (hat i u hi).2.out hr hW fun o ho => hb o (List.mem_append.2 (.inl ho))⟩, k.h I Zc W hG (fun o ho => hb o (List.mem_append.2 (.inr ho))) hW ((CS.le_r _ _).trans hz)⟩
      | p κ i q =>
        obtain ⟨hd, hall⟩ := hall
        simp only [argsM] at h
        split at h
        · rename_i o j
          simp only [M.ev] at h
          split at h
          · rename_i cs0 ho
            obtain ⟨cs, h1, h2⟩ := ev_bind_some h
            obtain ⟨x, h3, h4⟩ := ev_bind_some h2
            obtain ⟨r, h5, h6⟩ := ev_bind_some h4
            cases h6
            obtain ⟨hD, hv⟩ := hd
            have hob := hr.objs o
            rw [ho] at hob
            simp only [PA.ids, List.cons_append] at hnd hap
            have hperm : ∀ z, z ∈ PA.ids r.pa ++ (x.dead ++ r.dead) ↔ (z ∈ x.dead ∨ z ∈ PA.ids r.pa ++ r.dead) := fun z => by simp; constructor <;> (intro h; rcases h with h | h | h <;> simp [h])
            have n1 := List.nodup_cons.1 hnd
            have n2 := List.nodup_append.1 n1.2
            have n3 := List.nodup_append.1 n2.2.1
            have hxr : ∀ z ∈ x.dead, z ∉ PA.ids r.pa ++ r.dead := fun z hz h => by
              rcases List.mem_append.1 h with h | h
              · exact n2.2.2 z h z (List.mem_append.2 (.inl hz)) rfl
              · exact n3.2.2 z hz z h rfl
            have hox : o ∉ x.dead := fun h => n1.1 ((hperm o).2 (.inl h))
            have hor : o ∉ PA.ids r.pa ++ r.dead := fun h => n1.1 ((hperm o).2 (.inr h))
            have hnr : (PA.ids r.pa ++ r.dead).Nodup := List.nodup_append.2 ⟨n2.1, n3.2.1, fun z hz y hy e => n2.2.2 z hz y (List.mem_append.2 (.inr hy)) e⟩
            have hlx : ∀ z ∈ x.lent, z ≠ o ∧ z ∉ x.dead ∧ z ∉ PA.ids r.pa ++ r.dead := fun z hz => by
              have := hap z (List.mem_append.2 (.inl hz))
              rw [List.mem_cons, hperm] at this
              exact ⟨fun e => this (.inl e), fun e => this (.inr (.inl e)), fun e => this (.inr (.inr e))⟩
            have hlr : ∀ z ∈ r.lent, z ≠ o ∧ z ∉ x.dead ∧ z ∉ PA.ids r.pa ++ r.dead := fun z hz => by
              have := hap z (List.mem_append.2 (.inr hz))
              rw [List.mem_cons, hperm] at this
              exact ⟨fun e => this (.inl e), fun e => this (.inr (.inl e)), fun e => this (.inr (.inr e))⟩
            obtain ⟨us0, g1, g2⟩ := gather (R := fun c v => VR X β D Z w c v ∧ v.oneCell' = true) (w := w) (b := (β o).b) cs0 (β o).j fun i c hi => by
              obtain ⟨_, v, h1, h2⟩ := hob i c hi; exact ⟨v, h1.1, h2, h2.one⟩
            obtain ⟨h7, h8, us, h9, h10, h11⟩ := part_at h1 (All2.imp (fun c v h => h.1) _ _ g1) (Pr := fun i u => Wr w (β o).b ((β o).j + i) u ∧ S o (β o).b ((β o).j + i)) fun i u hu => by
              have hl := g1.len
              have hi : i < cs0.length := by rw [hl]; exact (List.getElem?_eq_some_iff.1 hu).1
              obtain ⟨k1, v', k2, k3⟩ := hob i cs0[i] (by simp [hi])
              have e : v' = u := by have := g2 i u hu; rw [k2.1] at this; exact Option.some.inj this
              exact ⟨e ▸ k2, k1⟩
            obtain ⟨T1, Z1, g⟩ := ofAll_sound hr h3 h10 n3.1 (fun z hz => (hlx z hz).2.1)
            obtain ⟨T2, Z2, k⟩ := ih ds vs r h5 hall hnr (fun z hz => (hlr z hz).2.2)
            have hus := H.len _ _ _ _ _ g.h
            have hC : CS.le (fun b i => b = (β o).b ∧ (β o).j + j ≤ i ∧ i < (β o).j + j + κ.n) (S o) := fun b i hh => by
              obtain ⟨rfl, h12, h13⟩ := hh
              have h14 : i - ((β o).j + j) < us.length := by omega
              have := (h11 (i - ((β o).j + j)) us[i - ((β o).j + j)] (by simp [h14])).2
              rwa [show (β o).j + (j + (i - ((β o).j + j))) = i by omega] at this
            have hT1 : (CS.or (fun b i => b = (β o).b ∧ (β o).j + j ≤ i ∧ i < (β o).j + j + κ.n) T1).le (US S (o :: x.dead)) := CS.or_le (fun b i hh => ⟨o, .head _, hC b i hh⟩) (g.t.trans (US.le fun z hz => .tail _ hz))
            refine ⟨(CS.or (fun b i => b = (β o).b ∧ (β o).j + j ≤ i ∧ i < (β o).j + j + κ.n) T1).or T2, Z1.or Z2, ?_, ?_, k.z.trans (CS.le_r _ _), CS.or_le (g.z'.trans ?_) (k.z'.trans ?_), ?_, ⟨⟨hD, by rw [hv], cs0, ho, h8⟩, k.l⟩, fun I Zc W hG hb hW hz => ?_⟩
            · refine CS.or_le (CS.or_le ((CS.le_l _ _).trans (CS.le_l _ _)) (g.t.trans ((US.le fun z hz => List.mem_append.2 (.inl hz)).trans (CS.le_r _ _)))) (k.t.trans (CS.or_le ((CS.le_r _ _).trans (CS.le_l _ _)) ((US.le fun z hz => List.mem_append.2 (.inr hz)).trans (CS.le_r _ _))))
            · refine CS.or_le (hT1.trans (US.le fun z hz => ?_)) (k.tu.trans (US.le fun z hz => ?_))
              · simp [PA.ids]; rcases List.mem_cons.1 hz with h | h
                · exact .inl h
                · exact .inr (.inr (.inl h))
              · simp [PA.ids]; rcases List.mem_append.1 hz with h | h
                · exact .inr (.inl h)
                · exact .inr (.inr (.inr h))
            · exact CS.or_le (CS.le_l _ _) (CS.le.trans (US.le fun z h => by simp at h ⊢; rcases h with h | h; exact .inl h; exact .inr (.inr (.inl h))) (CS.le_r _ _))
            · exact CS.or_le (CS.le_l _ _) (CS.le.trans (US.le fun z h => by simp at h ⊢; rcases h with h | h; exact .inr (.inl h); exact .inr (.inr (.inr h))) (CS.le_r _ _))
            · refine CS.or_apart (CS.or_apart (CS.apart_or ?_ ?_) (CS.apart_or g.d ?_)) (CS.apart_or ?_ k.d)
              · exact two_apart hr (I1 := [o]) (fun b i hh => ⟨o, .head _, hC b i hh⟩) g.z' fun z hz h => by
                  rw [List.mem_singleton.1 hz] at h
                  rcases List.mem_append.1 h with h | h
                  · exact hox h
                  · exact (hlx o h).1 rfl
              · exact two_apart hr (I1 := [o]) (fun b i hh => ⟨o, .head _, hC b i hh⟩) k.z' fun z hz h => by
                  rw [List.mem_singleton.1 hz] at h
                  rcases List.mem_append.1 h with h | h
                  · exact hor (List.mem_append.2 (.inr h))
                  · exact (hlr o h).1 rfl
              · exact two_apart hr g.t k.z' fun z hz h => by
                  rcases List.mem_append.1 h with h | h
                  · exact hxr z hz (List.mem_append.2 (.inr h))
                  · exact (hlr z h).2.1 hz
              · exact two_apart hr k.tu g.z' fun z hz h => by
                  rcases List.mem_append.1 h with h | h
                  · exact hxr z h hz
                  · exact (hlx z h).2.2 hz
            · refine ⟨(β o).b, (β o).j + j, vs, _, T2, by rw [hv], ⟨us, T1, H.more ((CS.le_l _ _).trans hz) _ _ _ _ _ g.h, CS.le_r _ _, fun i u hi => ?_⟩, k.h I Zc W hG hb hW ((CS.le_r _ _).trans hz), CS.le_l _ _, CS.le_r _ _, ?_⟩
              · have h12 := h11 i u hi
                have hi' : i < us.length := (List.getElem?_eq_some_iff.1 hi).1
                rw [← Nat.add_assoc] at h12
                refine ⟨h12.1, .inl ⟨rfl, by omega, by omega⟩, fun t => ?_⟩
                obtain ⟨z, hz, s⟩ := g.t _ _ t
                exact hr.apart o z (fun e => hox (e ▸ hz)) _ _ h12.2 s
              · exact (US.apart hr fun z hz h' => by
                  rcases List.mem_cons.1 hz with e | hz
                  · rw [e] at h'; exact hor h'
                  · exact hxr z hz h').mono hT1 k.tu
          · cases h
        · cases h
      | m κ =>
        obtain ⟨hd, hall⟩ := hall
        simp only [argsM] at h
        obtain ⟨cs, h1, h2⟩ := ev_bind_some h
        obtain ⟨x, h3, h4⟩ := ev_bind_some h2
        obtain ⟨r, h5, h6⟩ := ev_bind_some h4
        cases h6
        obtain ⟨us, hp, hu⟩ := dr_as hd h1
        simp only [PA.ids] at hnd hap
        have h3' := h3
        unfold K.inPlace at h3'
        obtain ⟨y, h7, h8⟩ := ev_bind_some h3'
        split at h8
        · rename_i e1
          cases h8
          have n0 := List.nodup_append.1 hnd
          have n1 := List.nodup_append.1 n0.1
          obtain ⟨cs1, us1, us2, T1, e2, e3, h9, h10, h11⟩ := inM_sound hr κ cs us y h7 hu n1.1
          rw [e1] at h9 e2
          have e4 : us2 = [] := by
            match us2, h9 with
            | [], _ => rfl
            | _ :: _, h => exact (h : False).elim
          simp at e2
          subst e2
          subst e4
          simp at e3
          subst e3
          have hir : ∀ z ∈ placeIds cs, z ∉ PA.ids r.pa ++ r.dead := fun z hz h => by
            rcases List.mem_append.1 h with h | h
            · exact n1.2.2 z hz z h rfl
            · exact n0.2.2 z (List.mem_append.2 (.inl hz)) z h rfl
          have hnr : (PA.ids r.pa ++ r.dead).Nodup := List.nodup_append.2 ⟨n1.2.1, n0.2.1, fun z hz y hy e => n0.2.2 z (List.mem_append.2 (.inr hz)) y hy e⟩
          obtain ⟨T2, Z2, k⟩ := ih ds vs r h5 hall hnr (fun z hz h => hap z hz (by
            rcases List.mem_append.1 h with h | h
            · exact List.mem_append.2 (.inl (List.mem_append.2 (.inr h)))
            · exact List.mem_append.2 (.inr h)))
          refine ⟨T1.or T2, Z2, ?_, ?_, k.z, k.z', CS.or_apart ?_ k.d, ⟨⟨us, _, hp, hu, h3⟩, k.l⟩, fun I Zc W hG hb hW hz => ?_⟩
          · exact CS.or_le (h11.trans ((CS.le_l _ _).trans (CS.le_l _ _))) (k.t.trans (CS.or_le ((CS.le_r _ _).trans (CS.le_l _ _)) (CS.le_r _ _)))
          · exact CS.or_le (h11.trans (US.le fun z hz => by simp [PA.ids, hz])) (k.tu.trans (US.le fun z hz => by
              simp [PA.ids]; rcases List.mem_append.1 hz with h | h
              · exact .inr (.inl h)
              · exact .inr (.inr h)))
          · exact two_apart hr h11 k.z' fun z hz h => by
              rcases List.mem_append.1 h with h | h
              · exact hir z hz (List.mem_append.2 (.inr h))
              · exact hap z h (List.mem_append.2 (.inl (List.mem_append.2 (.inl hz))))
          · exact ⟨v, us, vs, T1, T2, rfl, hp, H.more (k.z.trans hz) _ _ _ _ _ h10, k.h I Zc W hG hb hW hz, CS.le_l _ _, CS.le_r _ _, (US.apart hr hir).mono h11 k.tu⟩
        · cases h8
      | c e d' =>
        obtain ⟨hd, hall⟩ := hall
        simp only [argsM] at h
        obtain ⟨c, h0, h1⟩ := ev_bind_some h
        obtain ⟨x, h3, h4⟩ := ev_bind_some h1
        obtain ⟨r, h5, h6⟩ := ev_bind_some h4
        cases h6
        obtain ⟨_, hc⟩ := dr_cell hd h0
        have hc : VR X β D Z w c v := by
          rcases hc with rfl | ⟨rfl, _⟩ | hc
          · cases d' <;> cases h3
          · cases d' <;> cases h3
          · exact hc
        obtain ⟨T1, Z1, g⟩ : ∃ T Z', GotOk S Z w (bif d' then .dp else .fl) (.sl e) x.1 [v] x.2 [] T Z' := by
          cases d' with
          | true => exact sliceOw_sound hr hc h3
          | false => exact sliceFl_sound hr hc h3
        have n0 := List.nodup_append.1 hnd
        have n1 := List.nodup_append.1 n0.2.1
        have hxr : ∀ z ∈ x.2, z ∉ PA.ids r.pa ++ r.dead := fun z hz h => by
          rcases List.mem_append.1 h with h | h
          · exact n0.2.2 z h z (List.mem_append.2 (.inl hz)) rfl
          · exact n1.2.2 z hz z h rfl
        have hnr : (PA.ids r.pa ++ r.dead).Nodup := List.nodup_append.2 ⟨n0.1, n1.2.1, fun z hz y hy e => n0.2.2 z hz y (List.mem_append.2 (.inr hy)) e⟩
        have hlr : ∀ z ∈ r.lent, z ∉ x.2 ∧ z ∉ PA.ids r.pa ++ r.dead := fun z hz => by
          have := hap z hz
          simp at this ⊢
          exact ⟨this.2.1, this.1, this.2.2⟩
        obtain ⟨T2, Z2, k⟩ := ih ds vs r h5 hall hnr (fun z hz => (hlr z hz).2)
        have gz : Z1.le (Z.or (US S x.2)) := by simpa using g.z'
        refine ⟨T1.or T2, Z1.or Z2, ?_, ?_, k.z.trans (CS.le_r _ _), CS.or_le (gz.trans ?_) (k.z'.trans ?_), ?_, k.l, fun I Zc W hG hb hW hz => ?_⟩
        · exact CS.or_le (g.t.trans ((US.le fun z hz => List.mem_append.2 (.inl hz)).trans (CS.le_r _ _))) (k.t.trans (CS.or_le (CS.le_l _ _) ((US.le fun z hz => List.mem_append.2 (.inr hz)).trans (CS.le_r _ _))))
        · exact CS.or_le (g.t.trans (US.le fun z hz => by simp [hz])) (k.tu.trans (US.le fun z hz => by
              simp; rcases List.mem_append.1 hz with h | h
              · exact .inl h
              · exact .inr (.inr h)))
        · exact CS.or_le (CS.le_l _ _) (CS.le.trans (US.le fun z h => by simp [h]) (CS.le_r _ _))
        · exact CS.or_le (CS.le_l _ _) (CS.le.trans (US.le fun z h => by simp at h ⊢; exact .inr h) (CS.le_r _ _))
        · refine CS.or_apart (CS.apart_or g.d ?_) (CS.apart_or ?_ k.d)
          · exact two_apart hr g.t k.z' fun z hz h => by
              rcases List.mem_append.1 h with h | h
              · exact hxr z hz (List.mem_append.2 (.inr h))
              · exact (hlr z h).1 hz
          · exact two_apart hr k.tu gz fun z hz h => hxr z h hz
        · exact ⟨v, vs, T1, T2, rfl, H.more ((CS.le_l _ _).trans hz) _ _ _ _ _ g.h, k.h I Zc W hG hb hW ((CS.le_r _ _).trans hz), CS.le_l _ _, CS.le_r _ _, (US.apart hr hxr).mono g.t k.tu⟩
      | z e =>
        obtain ⟨hd, hall⟩ := hall
        simp only [argsM] at h
        split at h
        · obtain ⟨r, h5, h6⟩ := ev_bind_some h
          cases h6
          obtain ⟨T2, Z2, k⟩ := ih ds vs r h5 hall hnd hap
          obtain ⟨A, hv⟩ := hd
          exact ⟨T2, Z2, k.t, k.tu, k.z, k.z', k.d, k.l, fun I Zc W hG hb hW hz => ⟨A, vs, by rw [hv], k.h I Zc W hG hb hW hz⟩⟩
        · cases h
      | f p q =>
        obtain ⟨hd, hall⟩ := hall
        simp only [argsM] at h
        split at h
        · rename_i p' q' g
          split at h
          · rename_i e1 e2 _ _
            cases e1
            cases e2
            have hfn : ∀ W Zc, G W Zc → W.le X.F → Z.le Zc → FnR ⟨X.P, 0, W, w, Zc, []⟩ p q g v := fun W Zc hG hW hZ => by
              rcases hd with hd | ⟨g', e, hd⟩
              · exact FnR.sub hr hW hZ hd
              · cases e; exact hd W Zc hG
            obtain ⟨r, h5, h6⟩ := ev_bind_some h
            cases h6
            obtain ⟨T2, Z2, k⟩ := ih ds vs r h5 hall hnd hap
            exact ⟨T2, Z2, k.t, k.tu, k.z, k.z', k.d, k.l, fun I Zc W hG hb hW hz => ⟨v, vs, rfl, hfn W Zc hG (hW.trans (US.F hr I)) (k.z.trans hz), k.h I Zc W hG hb hW hz⟩⟩
          · cases h
        · cases h
      | rr κ => cases h
      | q κ i =>
        obtain ⟨hd, hall⟩ := hall
        simp only [argsM] at h
        split at h
        · rename_i o
          simp only [M.ev] at h
          split at h
          · rename_i cs0 ho
            obtain ⟨x, h3, h4⟩ := ev_bind_some h
            obtain ⟨r, h5, h6⟩ := ev_bind_some h4
            cases h6
            obtain ⟨hD, hv⟩ := hd
            have hob := hr.objs o
            rw [ho] at hob
            have n0 := List.nodup_append.1 hnd
            have n1' := List.nodup_append.1 (show ((o :: x.dead) ++ r.dead).Nodup from n0.2.1)
            have n3 := List.nodup_cons.1 n1'.1
            have hxr : ∀ z ∈ o :: x.dead, z ∉ PA.ids r.pa ++ r.dead := fun z hz h => by
              rcases List.mem_append.1 h with h | h
              · exact n0.2.2 z h z (List.mem_append.2 (.inl hz) : z ∈ (o :: x.dead) ++ r.dead) rfl
              · exact n1'.2.2 z hz z h rfl
            have hnr : (PA.ids r.pa ++ r.dead).Nodup := List.nodup_append.2 ⟨n0.1, n1'.2.1, fun z hz y hy e => n0.2.2 z hz y (List.mem_append.2 (.inr hy) : y ∈ (o :: x.dead) ++ r.dead) e⟩
            have hlx : ∀ z ∈ x.lent, z ∉ o :: x.dead ∧ z ∉ PA.ids r.pa ++ r.dead := fun z hz => by
              have := hap z (List.mem_append.2 (.inl hz))
              simp at this ⊢
              exact ⟨⟨this.2.1, this.2.2.1⟩, this.1, this.2.2.2⟩
            have hlr : ∀ z ∈ r.lent, z ∉ o :: x.dead ∧ z ∉ PA.ids r.pa ++ r.dead := fun z hz => by
              have := hap z (List.mem_append.2 (.inr hz))
              simp at this ⊢
              exact ⟨⟨this.2.1, this.2.2.1⟩, this.1, this.2.2.2⟩
            obtain ⟨us, g1, g2⟩ := gather (R := fun c v => VR X β D Z w c v) (w := w) (b := (β o).b) cs0 (β o).j fun i c hi => by
              obtain ⟨_, v, h1, h2⟩ := hob i c hi; exact ⟨v, h1.1, h2⟩
            have h11 : ∀ (i : Nat) u, us[i]? = some u → Wr w (β o).b ((β o).j + i) u ∧ S o (β o).b ((β o).j + i) := fun i u hu => by
              have hl := g1.len
              have hi : i < cs0.length := by rw [hl]; exact (List.getElem?_eq_some_iff.1 hu).1
              obtain ⟨k1, v', k2, k3⟩ := hob i cs0[i] (by simp [hi])
              have e : v' = u := by have := g2 i u hu; rw [k2.1] at this; exact Option.some.inj this
              exact ⟨e ▸ k2, k1⟩
            obtain ⟨T1, Z1, g⟩ := ofAll_sound hr h3 g1 n3.2 (fun z hz h => (hlx z hz).1 (.tail _ h))
            obtain ⟨T2, Z2, k⟩ := ih ds vs r h5 hall hnr (fun z hz => (hlr z hz).2)
            have hT1 : (CS.or (S o) T1).le (US S (o :: x.dead)) := CS.or_le (fun b i hh => ⟨o, .head _, hh⟩) (g.t.trans (US.le fun z hz => .tail _ hz))
            have gz : Z1.le (Z.or (US S (x.dead ++ x.lent))) := g.z'
            refine ⟨(CS.or (S o) T1).or T2, Z1.or Z2, ?_, ?_, k.z.trans (CS.le_r _ _), CS.or_le (gz.trans ?_) (k.z'.trans ?_), ?_, k.l, fun I Zc W hG hb hW hz => ?_⟩
            · exact CS.or_le (hT1.trans ((US.le fun z hz => (List.mem_append.2 (.inl hz) : z ∈ (o :: x.dead) ++ r.dead)).trans (CS.le_r _ _))) (k.t.trans (CS.or_le (CS.le_l _ _) ((US.le fun z hz => (List.mem_append.2 (.inr hz) : z ∈ (o :: x.dead) ++ r.dead)).trans (CS.le_r _ _))))
            · exact CS.or_le (hT1.trans (US.le fun z hz => List.mem_append.2 (.inr (List.mem_append.2 (.inl hz) : z ∈ (o :: x.dead) ++ r.dead)))) (k.tu.trans (US.le fun z hz => by
                rcases List.mem_append.1 hz with h | h
                · exact List.mem_append.2 (.inl h)
                · exact List.mem_append.2 (.inr (List.mem_append.2 (.inr h) : z ∈ (o :: x.dead) ++ r.dead))))
            · exact CS.or_le (CS.le_l _ _) (CS.le.trans (US.le fun z h => by
                simp at h ⊢; rcases h with h | h
                · exact .inr (.inl h)
                · exact .inr (.inr (.inr (.inl h)))) (CS.le_r _ _))
            · exact CS.or_le (CS.le_l _ _) (CS.le.trans (US.le fun z h => by
                simp at h ⊢; rcases h with h | h
                · exact .inr (.inr (.inl h))
                · exact .inr (.inr (.inr (.inr h)))) (CS.le_r _ _))
            · refine CS.or_apart (CS.or_apart (CS.apart_or ?_ ?_) (CS.apart_or g.d ?_)) (CS.apart_or ?_ k.d)
              · exact two_apart hr (I1 := [o]) (fun b i hh => ⟨o, .head _, hh⟩) gz fun z hz h => by
                  rw [List.mem_singleton.1 hz] at h
                  rcases List.mem_append.1 h with h | h
                  · exact n3.1 h
                  · exact (hlx o h).1 (.head _)
              · exact two_apart hr (I1 := [o]) (fun b i hh => ⟨o, .head _, hh⟩) k.z' fun z hz h => by
                  rw [List.mem_singleton.1 hz] at h
                  rcases List.mem_append.1 h with h | h
                  · exact hxr o (.head _) (List.mem_append.2 (.inr h))
                  · exact (hlr o h).1 (.head _)
              · exact two_apart hr g.t k.z' fun z hz h => by
                  rcases List.mem_append.1 h with h | h
                  · exact hxr z (.tail _ hz) (List.mem_append.2 (.inr h))
                  · exact (hlr z h).1 (.tail _ hz)
              · exact two_apart hr k.tu gz fun z hz h => by
                  rcases List.mem_append.1 h with h | h
                  · exact hxr z (.tail _ h) hz
                  · exact (hlx z h).2 hz
            · refine ⟨(β o).b, (β o).j, vs, _, T2, by rw [hv]; rfl, ⟨us, T1, H.more ((CS.le_l _ _).trans hz) _ _ _ _ _ g.h, CS.le_r _ _, fun i u hi => ?_⟩, k.h I Zc W hG hb hW ((CS.le_r _ _).trans hz), CS.le_l _ _, CS.le_r _ _, ?_⟩
              · have h12 := h11 i u hi
                refine ⟨h12.1, .inl h12.2, fun t => ?_⟩
                obtain ⟨z, hz, s⟩ := g.t _ _ t
                exact hr.apart o z (fun e => n3.1 (e ▸ hz)) _ _ h12.2 s
              · exact (US.apart hr hxr).mono hT1 k.tu
          · cases h
        · cases h
end
end Go.Dn
/- What a call leaves: results, what the parameters were. -/
set_option linter.unusedVariables false
namespace Go.Dn

theorem updAll_cover {α : Type} : ∀ (l : List (Nat × α)) (f g : Nat → α), (∀ i, (∀ x ∈ l, x.1 ≠ i) → f i = g i) → updAll f l = updAll g l
  | [], f, g, h => funext fun i => h i fun x hx => by cases hx
  | (j, x) :: r, f, g, h => updAll_cover r _ _ fun i hi => by
    by_cases e : i = j
    · subst e; rw [upd_same, upd_same]
    · rw [upd_ne _ _ e, upd_ne _ _ e]
      exact h i fun y hy => by
        rcases List.mem_cons.1 hy with rfl | hy
        · exact fun e2 => e e2.symm
        · exact hi y hy
theorem upd_updAll {α : Type} : ∀ (l : List (Nat × α)) (f : Nat → α) (b : Nat) (x : α), (∀ y ∈ l, y.1 ≠ b) → updAll (upd f b x) l = upd (updAll f l) b x
  | [], f, b, x, h => rfl
  | (j, y) :: r, f, b, x, h => by
    show updAll (upd (upd f b x) j y) r = upd (updAll (upd f j y) r) b x
    rw [← upd_updAll r _ b x fun z hz => h z (.tail _ hz)]
    congr 1
    funext i
    have := h (j, y) (.head _)
    by_cases e : i = j
    · subst e; rw [upd_same, upd_ne _ _ this, upd_same]
    · rw [upd_ne _ _ e]
      by_cases e2 : i = b
      · subst e2; rw [upd_same, upd_same]
      · rw [upd_ne _ _ e2, upd_ne _ _ e2, upd_ne _ _ e]
theorem ev_newAll {α : Type} {ob : Nat → OB} {m : M α} {y : α} : ∀ {l : List (Nat × OB)}, (newAllM m l).ev ob = some y → (∀ x ∈ l, ob x.1 = .non) ∧ m.ev ob = some y
  | [], h => ⟨fun x hx => by (cases hx), h⟩
  | z :: r, h => by
    obtain ⟨h1, h2⟩ := ev_newM h
    obtain ⟨h3, h4⟩ := ev_newAll h2
    exact ⟨fun x hx => by
      rcases List.mem_cons.1 hx with rfl | hx
      · exact h1
      · exact h3 x hx, h4⟩

/-- Nothing in it is read of elsewhere. -/
theorem H.alone {Z Z' : CS} {w : World} : ∀ (κ : K) (q : Q) (x : κ.T) (vs : List Value) (S : CS), κ.shares q = false → H Z w q κ x vs S → H Z' w q κ x vs S
  | .int _, _, _, _, _, _, h => by simpa only [H] using h
  | .bool, _, _, _, _, _, h => by simpa only [H] using h
  | .str, _, _, _, _, _, h => by simpa only [H] using h
  | .unit, _, _, _, _, _, h => by simpa only [H] using h
  | .pair a b, q, x, vs, S, hs, h => by
    simp only [K.shares, Bool.or_eq_false_iff] at hs
    obtain ⟨u, us, S1, S2, e, h1, h2, h3⟩ := h
    exact ⟨u, us, S1, S2, e, H.alone a q.l x.1 u S1 hs.1 h1, H.alone b q.r x.2 us S2 hs.2 h2, h3⟩
  | .sl e, q, x, vs, S, hs, h => by
    cases q with
    | dp =>
      obtain ⟨A, c, e1, h⟩ := h
      refine ⟨A, c, e1, h.imp (CS.le.refl _) fun us S1 _ => HL.imp _ _ _ fun y u S2 _ hy => ?_⟩
      exact H.alone e .dp y u S2 (dpShares e) hy
    | fl =>
      simp only [K.shares, Bool.not_eq_false'] at hs
      obtain ⟨A, c, e1, h⟩ := h
      exact ⟨A, c, e1, h.imp (CS.le.refl _) fun us S1 _ => HL.imp _ _ _ fun y u S2 _ hy => H.flat e .rd .rd y u S2 S2 hs hy⟩
    | rd => simp [K.shares] at hs
    | pr _ _ => simp [K.shares] at hs
where dpShares : ∀ (κ : K), κ.shares .dp = false
  | .int _ => rfl
  | .bool => rfl
  | .str => rfl
  | .unit => rfl
  | .sl _ => rfl
  | .pair a b => by
    show (a.shares .dp || b.shares .dp) = false
    rw [dpShares a, dpShares b]; rfl
theorem ResR.alone {Z Z' : CS} {w : World} : ∀ (rs : List (K × Q)) (y : Sig.Res rs) (vs : List Value) (T : CS), shares rs = false → ResR Z w rs y vs T → ResR Z' w rs y vs T
  | [], y, vs, T, _, h => h
  | (κ, q) :: rs, y, vs, T, hs, h => by
    simp only [shares, Bool.or_eq_false_iff] at hs
    obtain ⟨v, us, r, T1, T2, e, hp, h1, h2, h3⟩ := h
    exact ⟨v, us, r, T1, T2, e, hp, H.alone κ q y.1 us T1 hs.1 h1, ResR.alone rs y.2 r T2 hs.2 h2, h3⟩
theorem OutsR.alone {Z Z' : CS} {w : World} : ∀ (ps : List PM) (y : Sig.OutP ps) (vs : List Value) (T : CS), sharesP ps = false → OutsR Z w ps y vs T → OutsR Z' w ps y vs T
  | [], _, _, _, _, _ => trivial
  | .p κ _ q :: ps, y, vs, T, hs, h => by
    simp only [sharesP, Bool.or_eq_false_iff] at hs
    obtain ⟨b, off, r, T1, T2, e, ⟨us, T', h1, h2⟩, h3, h4⟩ := h
    exact ⟨b, off, r, T1, T2, e, ⟨us, T', H.alone κ q y.1 us T' hs.1 h1, h2⟩, OutsR.alone ps y.2 r T2 hs.2 h3, h4⟩
  | .m κ :: ps, y, vs, T, hs, h => by
    obtain ⟨v, us, r, T1, T2, e, hp, h1, h3, h4⟩ := h
    exact ⟨v, us, r, T1, T2, e, hp, H.alone κ .dp y.1 us T1 (H.alone.dpShares κ) h1, OutsR.alone ps y.2 r T2 hs h3, h4⟩
  | .b _ :: ps, y, vs, T, hs, h => OutsR.alone ps y _ T hs h
  | .r _ :: ps, y, vs, T, hs, h => OutsR.alone ps y _ T hs h
  | .c _ _ :: ps, y, vs, T, hs, h => OutsR.alone ps y _ T hs h
  | .z _ :: ps, y, vs, T, hs, h => OutsR.alone ps y _ T hs h
  | .f _ _ :: ps, y, vs, T, hs, h => OutsR.alone ps y _ T hs h
  | .q _ _ :: ps, y, vs, T, hs, h => OutsR.alone ps y _ T hs h
  | .rr _ :: ps, y, vs, T, hs, h => OutsR.alone ps y _ T hs h
theorem ResR.more {Z Z' : CS} {w : World} (hz : Z.le Z') : ∀ (rs : List (K × Q)) (y : Sig.Res rs) (vs : List Value) (T : CS), ResR Z w rs y vs T → ResR Z' w rs y vs T
  | [], y, vs, T, h => h
  | (κ, q) :: rs, y, vs, T, h => by
    obtain ⟨v, us, r, T1, T2, e, hp, h1, h2, h3⟩ := h
    exact ⟨v, us, r, T1, T2, e, hp, H.more hz κ q y.1 us T1 h1, ResR.more hz rs y.2 r T2 h2, h3⟩
theorem OutsR.more {Z Z' : CS} {w : World} (hz : Z.le Z') : ∀ (ps : List PM) (y : Sig.OutP ps) (vs : List Value) (T : CS), OutsR Z w ps y vs T → OutsR Z' w ps y vs T
  | [], _, _, _, _ => trivial
  | .p κ _ q :: ps, y, vs, T, h => by
    obtain ⟨b, off, r, T1, T2, e, ⟨us, T', h1, h2⟩, h3, h4⟩ := h
    exact ⟨b, off, r, T1, T2, e, ⟨us, T', H.more hz κ q y.1 us T' h1, h2⟩, OutsR.more hz ps y.2 r T2 h3, h4⟩
  | .m κ :: ps, y, vs, T, h => by
    obtain ⟨v, us, r, T1, T2, e, hp, h1, h3, h4⟩ := h
    exact ⟨v, us, r, T1, T2, e, hp, H.more hz κ .dp y.1 us T1 h1, OutsR.more hz ps y.2 r T2 h3, h4⟩
  | .b _ :: ps, y, vs, T, h => OutsR.more hz ps y _ T h
  | .r _ :: ps, y, vs, T, h => OutsR.more hz ps y _ T h
  | .c _ _ :: ps, y, vs, T, h => OutsR.more hz ps y _ T h
  | .z _ :: ps, y, vs, T, h => OutsR.more hz ps y _ T h
  | .f _ _ :: ps, y, vs, T, h => OutsR.more hz ps y _ T h
  | .q _ _ :: ps, y, vs, T, h => OutsR.more hz ps y _ T h
  | .rr _ :: ps, y, vs, T, h => OutsR.more hz ps y _ T h

section
variable {X : Cx} {D : Nat → Prop} {Z : CS} {sl : Nat → DV} {outs : List CV} {a : Act} {w : World}
theorem Grew.trans {X : Cx} {β β1 β2 : Nat → Pl} {D D1 D2 : Nat → Prop} {S S1 S2 : Nat → CS} {Z : CS} {w : World} {T T1 T2 : CS} (h : Grew X β D S Z w T1 β1 D1 S1) (h' : Grew X β1 D1 S1 Z w T2 β2 D2 S2) (h1 : T1.le T) (h2 : T2.le T) : Grew X β D S Z w T β2 D2 S2 where
  d := fun o d => ⟨(h'.d o (h.d o d).1).1, (h'.d o (h.d o d).1).2.trans (h.d o d).2⟩
  s := fun o b j s => by
    rcases h'.s o b j s with s | s
    · rcases h.s o b j s with s | s
      · exact .inl s
      · exact .inr (h1 b j s)
    · exact .inr (h2 b j s)
theorem VR.grew {X : Cx} {β β' : Nat → Pl} {D D' : Nat → Prop} {S S' : Nat → CS} {Z : CS} {w : World} {T : CS} (g : Grew X β D S Z w T β' D' S') {c : CV} {v : Value} (h : VR X β D Z w c v) : VR X β' D' Z w c v :=
  h.mono g.d (CS.le.refl _) (Agr.refl CS.no w) (fun _ _ t => t.elim) (fun _ _ t => t.elim)
theorem Free.grew {X : Cx} {β β' : Nat → Pl} {D D' : Nat → Prop} {S S' : Nat → CS} {Z : CS} {w : World} {T T1 : CS} (g : Grew X β D S Z w T1 β' D' S') (h : Free X S Z w T) (hd : T.apart T1) : Free X S' Z w T where
  f := h.f
  b := h.b
  z := h.z
  s := fun o b j t s => by
    rcases g.s o b j s with s | s
    · exact h.s o b j t s
    · exact hd b j t s
theorem Free.le {X : Cx} {S : Nat → CS} {Z : CS} {w : World} {T T' : CS} (h : Free X S Z w T) (hl : T'.le T) : Free X S Z w T' :=
  ⟨hl.trans h.f, fun b j t => h.b b j (hl b j t), h.z.mono hl (CS.le.refl _), fun o => (h.s o).mono hl (CS.le.refl _)⟩

theorem resM_ids : ∀ (rs : List (K × Q)) (y : Sig.Res rs) (i : Nat), i ≤ (resM rs y i).2.2 ∧ ∀ z ∈ (resM rs y i).2.1, i ≤ z.1 ∧ z.1 < (resM rs y i).2.2
  | [], y, i => ⟨Nat.le_refl _, fun z h => by cases h⟩
  | (κ, q) :: rs, y, i => by
    obtain ⟨h1, h2⟩ := give_ids κ q y.1 i
    obtain ⟨h3, h4⟩ := resM_ids rs y.2 (κ.give q y.1 i).2.2
    simp only [resM]
    refine ⟨Nat.le_trans h1 h3, fun z hz => ?_⟩
    rcases List.mem_append.1 hz with hz | hz
    · have := h2 z hz; omega
    · have := h4 z hz; omega
theorem give_len : ∀ (κ : K) (q : Q) (x : κ.T) (i : Nat), (κ.give q x i).1.length = κ.n
  | .int _, q, _, _ => by cases q <;> rfl
  | .bool, q, _, _ => by cases q <;> rfl
  | .str, q, _, _ => by cases q <;> rfl
  | .unit, q, _, _ => by cases q <;> rfl
  | .pair a b, q, x, i => by simp [K.give, K.n, give_len a, give_len b]
  | .sl _, q, _, _ => by cases q <;> rfl
theorem dr1_of {R : CV → Value → Prop} {κ : K} {cs : List CV} {us : List Value} {v : Value} (h : All2 R cs us) (hu : ∀ c v, R c v → c ≠ .skip) (hl : cs.length = κ.n) (hv : pk κ us v) : DR1 R κ.agg cs v := dr_of h hu hl hv
theorem res_sound : ∀ (rs : List (K × Q)) (y : Sig.Res rs) (i : Nat) (vs : List Value) (T : CS) (β : Nat → Pl) (D : Nat → Prop) (S : Nat → CS) (ob : Nat → OB), ResR Z w rs y vs T → RelAt X β D S Z sl ob outs a w → Free X S Z w T → (∀ z ∈ (resM rs y i).2.1, ob z.1 = .non) →
    ∃ β' D' S', RelAt X β' D' S' Z sl (updAll ob (resM rs y i).2.1) outs a w ∧ All2 (fun d u => DR1 (VR X β' D' Z w) d.1 d.2 u) (resM rs y i).1 vs ∧ Grew X β D S Z w T β' D' S'
  | [], y, i, vs, T, β, D, S, ob, h, hr, hf, hn => by
    simp only [ResR] at h; subst h
    exact ⟨β, D, S, hr, trivial, fun o d => ⟨d, rfl⟩, fun o b j s => .inl s⟩
  | (κ, q) :: rs, y, i, vs, T, β, D, S, ob, h, hr, hf, hn => by
    obtain ⟨v, us, r, T1, T2, rfl, hp, h1, h2, hs⟩ := h
    have g1 := give_ids κ q y.1 i
    have g2 := resM_ids rs y.2 (κ.give q y.1 i).2.2
    simp only [resM] at hn ⊢
    obtain ⟨β1, D1, S1, r1, a1, w1⟩ := give_sound κ q y.1 i us T1 β D S ob h1 hr (hf.le hs.l) (fun z hz => hn z (List.mem_append.2 (.inl hz)))
    obtain ⟨β2, D2, S2, r2, a2, w2⟩ := res_sound rs y.2 _ r T2 β1 D1 S1 _ h2 r1 ((hf.le hs.r).grew w1 hs.d.symm) (fun z hz => by
      rw [updAll_out _ _ _ fun x hx e => by have := (g1.2 x hx).2; have := (g2.2 z hz).1; omega]
      exact hn z (List.mem_append.2 (.inr hz)))
    refine ⟨β2, D2, S2, by rw [updAll_app]; exact r2, ⟨?_, a2⟩, w1.trans w2 hs.l hs.r⟩
    exact DR1.imp (fun c v h => h.grew w2) _ _ _ (dr1_of a1 (fun _ _ h => vr_noskip h) (give_len κ q y.1 i) hp)

/-- What is left of boxes that a call wrote: U, their other cells. -/
def BoxRest (X : Cx) (β0 β : Nat → Pl) (D : Nat → Prop) (Z : CS) (w : World) (ob : Nat → OB) : List PM → List PA → CS → Prop
  | .p κ _ _ :: ps, .box o j :: pa, U => ∃ cs U1 U2, ob o = .box cs ∧ (∀ i c, cs[i]? = some c → ¬ (j ≤ i ∧ i < j + κ.n) → U1 (β0 o).b ((β0 o).j + i) ∧ ∃ v, Wr w (β0 o).b ((β0 o).j + i) v ∧ VR X β D Z w c v) ∧ BoxRest X β0 β D Z w ob ps pa U2 ∧ Sep U U1 U2
  | .m _ :: ps, .cells _ :: pa, U => BoxRest X β0 β D Z w ob ps pa U
  | .b _ :: ps, pa, U => BoxRest X β0 β D Z w ob ps pa U
  | .r _ :: ps, pa, U => BoxRest X β0 β D Z w ob ps pa U
  | .c _ _ :: ps, pa, U => BoxRest X β0 β D Z w ob ps pa U
  | .z _ :: ps, pa, U => BoxRest X β0 β D Z w ob ps pa U
  | .f _ _ :: ps, pa, U => BoxRest X β0 β D Z w ob ps pa U
  | .q _ _ :: ps, pa, U => BoxRest X β0 β D Z w ob ps pa U
  | _, _, _ => True
theorem BoxRest.grew {X : Cx} {β0 β β' : Nat → Pl} {D D' : Nat → Prop} {S S' : Nat → CS} {Z : CS} {w : World} {T : CS} {ob : Nat → OB} (g : Grew X β D S Z w T β' D' S') : ∀ (ps : List PM) (pa : List PA) (U : CS), BoxRest X β0 β D Z w ob ps pa U → BoxRest X β0 β' D' Z w ob ps pa U
  | [], _, _, _ => trivial
  | .p κ _ _ :: ps, [], U, h => trivial
  | .p κ _ _ :: ps, .cells _ :: pa, U, h => trivial
  | .m κ :: ps, [], U, h => trivial
  | .m κ :: ps, .box _ _ :: pa, U, h => trivial
  | .p κ _ _ :: ps, .box o j :: pa, U, h => by
    obtain ⟨cs, U1, U2, h1, h2, h3, h4⟩ := h
    refine ⟨cs, U1, U2, h1, fun i c hi hn => ?_, BoxRest.grew g ps pa U2 h3, h4⟩
    obtain ⟨k1, v, k2, k3⟩ := h2 i c hi hn
    exact ⟨k1, v, k2, k3.mono g.d (CS.le.refl _) (Agr.refl CS.no w) (fun _ _ t => t.elim) (fun _ _ t => t.elim)⟩
  | .m κ :: ps, .cells _ :: pa, U, h => BoxRest.grew g ps pa U h
  | .b _ :: ps, pa, U, h => BoxRest.grew g ps pa U h
  | .r _ :: ps, pa, U, h => BoxRest.grew g ps pa U h
  | .c _ _ :: ps, pa, U, h => BoxRest.grew g ps pa U h
  | .z _ :: ps, pa, U, h => BoxRest.grew g ps pa U h
  | .f _ _ :: ps, pa, U, h => BoxRest.grew g ps pa U h
  | .q _ _ :: ps, pa, U, h => BoxRest.grew g ps pa U h
  | .rr _ :: ps, pa, U, h => trivial
theorem placeIds_app : ∀ l r : List CV, placeIds (l ++ r) = placeIds l ++ placeIds r
  | [], r => rfl
  | c :: l, r => by cases c <;> simp [placeIds, placeIds_app l r]

/-- Rows that were written in their places. -/
theorem outM_sound {X0 : Cx} {β0 : Nat → Pl} {D0 : Nat → Prop} {S0 : Nat → CS} {Z0 : CS} {w0 : World} {sl0 : Nat → DV} {outs0 : List CV} {a0 : Act} {ob0 : Nat → OB} (hr0 : RelAt X0 β0 D0 S0 Z0 sl0 ob0 outs0 a0 w0) :
    ∀ (κ : K) (x : κ.T) (cs : List CV) (us : List Value) (x0 : κ.T × List CV) (r : List (Nat × OB) × List CV) (T : CS) (β : Nat → Pl) (D : Nat → Prop) (S : Nat → CS) (ob : Nat → OB), (κ.inM cs).ev ob0 = some x0 → (κ.outM x cs).ev ob0 = some r →
      All2 (VR X0 β0 D0 Z0 w0) cs us → (∀ o, D0 o → D o ∧ β o = β0 o) → H Z w .dp κ x (us.take κ.n) T → RelAt X β D S Z sl ob outs a w → Free X S Z w T →
      ∃ cs1 us2 S', cs = cs1 ++ r.2 ∧ us2 = us.drop κ.n ∧ All2 (VR X0 β0 D0 Z0 w0) r.2 us2 ∧ x0.2 = r.2 ∧ RelAt X β D S' Z sl (updAll ob r.1) outs a w ∧ Grew X β D S Z w T β D S' ∧ (∀ z ∈ r.1, z.1 ∈ placeIds cs1) ∧ ∀ o ∈ placeIds cs1, ∃ z ∈ r.1, z.1 = o := by
  intro κ
  have flat : ∀ (c : CV) (u : Value) (cs : List CV) (us : List Value) (T : CS) (β : Nat → Pl) (D : Nat → Prop) (S : Nat → CS) (ob : Nat → OB), RelAt X β D S Z sl ob outs a w → All2 (VR X0 β0 D0 Z0 w0) cs us → (∀ o, c ≠ .arr o) → (∀ o i j, c ≠ .inn o i j) →
      ∃ cs1 us2 S', c :: cs = cs1 ++ cs ∧ us2 = us ∧ All2 (VR X0 β0 D0 Z0 w0) cs us2 ∧ cs = cs ∧ RelAt X β D S' Z sl (updAll ob []) outs a w ∧ Grew X β D S Z w T β D S' ∧ (∀ z ∈ ([] : List (Nat × OB)), z.1 ∈ placeIds cs1) ∧ ∀ o ∈ placeIds cs1, ∃ z ∈ ([] : List (Nat × OB)), z.1 = o := fun c u cs us T β D S ob hr h2 hc1 hc2 => by
    refine ⟨[c], us, S, rfl, rfl, h2, rfl, hr, ⟨fun o d => ⟨d, rfl⟩, fun o b j s => .inl s⟩, fun z hz => (by cases hz), fun o ho => ?_⟩
    have : placeIds [c] = [] := by cases c <;> first | rfl | exact absurd rfl (hc1 _) | exact absurd rfl (hc2 _ _ _)
    rw [this] at ho; cases ho
  induction κ with
  | int k =>
    intro x cs us x0 r T β D S ob h0 h hall hD hH hr hf
    match cs, us, hall with
    | [], _, _ => cases h
    | c :: cs, [], hall => exact (hall : False).elim
    | c :: cs, u :: us, ⟨h1, h2⟩ =>
      cases c <;> try (cases h0; done)
      simp only [K.outM] at h
      simp only [K.inM] at h0
      split at h0
      · cases h; cases h0
        exact flat _ u cs us T β D S ob hr h2 (fun _ => by simp) (fun _ _ _ => by simp)
      · cases h0
  | bool =>
    intro x cs us x0 r T β D S ob h0 h hall hD hH hr hf
    match cs, us, hall with
    | [], _, _ => cases h
    | c :: cs, [], hall => exact (hall : False).elim
    | c :: cs, u :: us, ⟨h1, h2⟩ =>
      cases c <;> try (cases h0; done)
      simp only [K.outM] at h
      simp only [K.inM] at h0
      cases h; cases h0
      exact flat _ u cs us T β D S ob hr h2 (fun _ => by simp) (fun _ _ _ => by simp)
  | str =>
    intro x cs us x0 r T β D S ob h0 h hall hD hH hr hf
    match cs, us, hall with
    | [], _, _ => cases h
    | c :: cs, [], hall => exact (hall : False).elim
    | c :: cs, u :: us, ⟨h1, h2⟩ =>
      cases c <;> try (cases h0; done)
      simp only [K.outM] at h
      simp only [K.inM] at h0
      cases h; cases h0
      exact flat _ u cs us T β D S ob hr h2 (fun _ => by simp) (fun _ _ _ => by simp)
  | unit =>
    intro x cs us x0 r T β D S ob h0 h hall hD hH hr hf
    simp only [K.outM] at h
    simp only [K.inM] at h0
    cases h; cases h0
    exact ⟨[], us, S, rfl, rfl, hall, rfl, hr, ⟨fun o d => ⟨d, rfl⟩, fun o b j s => .inl s⟩, fun z hz => (by cases hz), fun o ho => (by cases ho)⟩
  | pair p q ih1 ih2 =>
    intro x cs us x0 r T β D S ob h0 h hall hD hH hr hf
    simp only [K.outM] at h
    obtain ⟨y, h1, h2⟩ := ev_bind_some h
    obtain ⟨z, h3, h4⟩ := ev_bind_some h2
    cases h4
    simp only [K.inM] at h0
    obtain ⟨y0, h5, h6⟩ := ev_bind_some h0
    obtain ⟨z0, h7, h8⟩ := ev_bind_some h6
    cases h8
    obtain ⟨u1, u2, T1, T2, e1, k1, k2, hs⟩ := hH
    have l1 := H.len _ _ _ _ _ k1
    have l2 := H.len _ _ _ _ _ k2
    have e2 : us.take p.n = u1 := by
      have : (us.take (p.pair q).n).take p.n = u1 := by rw [e1, ← l1]; simp
      rwa [List.take_take, Nat.min_eq_left (by simp [K.n])] at this
    have e3 : (us.drop p.n).take q.n = u2 := by
      have : (us.take (p.pair q).n).drop p.n = u2 := by rw [e1, ← l1]; simp
      rw [List.drop_take] at this
      simpa [K.n] using this
    obtain ⟨c1, us2, S1, rfl, rfl, g1, g2, g3, g4, g5, g6⟩ := ih1 x.1 cs us y0 y T1 β D S ob h5 h1 hall hD (by rw [e2]; exact k1) hr (hf.le hs.l)
    rw [g2] at h7
    obtain ⟨c2, us3, S2, e4, rfl, g7, g8, g9, g10, g11, g12⟩ := ih2 x.2 y.2 _ z0 z T2 β D S1 _ h7 h3 g1 hD (by rw [e3]; exact k2) g3 ((hf.le hs.r).grew g4 hs.d.symm)
    refine ⟨c1 ++ c2, us.drop (p.pair q).n, S2, by rw [e4]; simp, rfl, by simpa [K.n] using g7, g8, by rw [updAll_app]; exact g9, g4.trans g10 hs.l hs.r, fun v hv => ?_, fun o ho => ?_⟩
    · rw [placeIds_app]
      rcases List.mem_append.1 hv with hv | hv
      · exact List.mem_append.2 (.inl (g5 v hv))
      · exact List.mem_append.2 (.inr (g11 v hv))
    · rw [placeIds_app] at ho
      rcases List.mem_append.1 ho with ho | ho
      · obtain ⟨v, hv, e⟩ := g6 o ho; exact ⟨v, List.mem_append.2 (.inl hv), e⟩
      · obtain ⟨v, hv, e⟩ := g12 o ho; exact ⟨v, List.mem_append.2 (.inr hv), e⟩
  | sl e ih =>
    intro x cs us x0 r T β D S ob h0 h hall hD hH hr hf
    match cs, us, hall with
    | [], _, _ => cases h
    | c :: cs, [], hall => exact (hall : False).elim
    | c :: cs, u :: us, ⟨h1, h2⟩ =>
      simp only [K.inM] at h0
      obtain ⟨y, h3, h4⟩ := ev_bind_some h0
      cases h4
      simp only [K.outM] at h
      split at h
      · cases h
        exact ⟨[.nil], us, S, rfl, rfl, h2, rfl, hr, ⟨fun o d => ⟨d, rfl⟩, fun o b j s => .inl s⟩, fun z hz => (by cases hz), fun o ho => (by cases ho)⟩
      · rename_i o
        cases h
        obtain ⟨hd, hv⟩ := h1
        have hob := hr0.objs o
        unfold sliceIn at h3
        simp only [M.ev] at h3
        split at h3
        · rename_i e' d l ho
          cases hdf : (d || e'.flat) with
          | false => rw [hdf] at h3; cases h3
          | true =>
            rw [hdf] at h3
            obtain ⟨rfl, rfl⟩ := ev_castL h3
            rw [ho] at hob
            obtain ⟨h5, h6, h7⟩ := hob
            obtain ⟨A, cp, h8, h9⟩ := hH
            obtain ⟨k1, k2⟩ := hD o hd
            simp only [K.n, List.take_succ_cons, List.take_zero, List.cons.injEq, and_true] at h8
            rw [hv] at h8
            injection h8 with h10 h11 h12
            refine ⟨[.arr o], us, upd S o T, rfl, rfl, h2, rfl, ?_, ⟨fun o d => ⟨d, rfl⟩, fun i b j s => ?_⟩, fun z hz => (by rw [List.mem_singleton.1 hz]; exact .head _), fun i hi => (by
              rw [List.mem_singleton.1 hi]; exact ⟨_, .head _, rfl⟩)⟩
            · refine hr.set2 o _ (by simp) CS.no T Z (CS.no_le _) (Agr.refl _ _) (CS.le.refl _) (fun i _ => hr.sz i) (fun i _ => hf.s i) hf.z hf.f hf.b hr.zin hr.zbd ?_
              show _ ∧ _ ∧ _
              rw [k2, h10, h11, h12]
              exact ⟨rfl, h6, h9⟩
            · by_cases e : i = o
              · subst e; rw [upd_same] at s; exact .inr s
              · rw [upd_ne _ _ e] at s; exact .inl s
        · cases h3
      · exact (h1 : False).elim
      · cases h
end
end Go.Dn
/- What parameters were, behind a call. -/
set_option linter.unusedVariables false
namespace Go.Dn

theorem pk_inj {κ : K} {us us' : List Value} {v : Value} (h : pk κ us v) (h' : pk κ us' v) : us = us' := by
  unfold pk at h h'
  cases hk : κ.agg with
  | true => rw [hk] at h h'; simp at h h'; rw [h] at h'; simpa using h'
  | false => rw [hk] at h h'; simp at h h'; rw [h, h']

theorem place_dom {X : Cx} {β : Nat → Pl} {D : Nat → Prop} {Z : CS} {w : World} : ∀ (cs : List CV) (us : List Value), All2 (VR X β D Z w) cs us → ∀ o ∈ placeIds cs, D o
  | [], _, _, o, h => by cases h
  | c :: cs, [], h, _, _ => (h : False).elim
  | c :: cs, u :: us, ⟨h1, h2⟩, o, h => by
    cases c <;> first
      | exact place_dom cs us h2 o h
      | (rcases List.mem_cons.1 h with rfl | h
         · first | exact h1.1 | exact (h1 : False).elim
         · exact place_dom cs us h2 o h)

section
variable {X : Cx} {D : Nat → Prop} {Z : CS} {sl : Nat → DV} {outs : List CV} {a : Act} {w : World}
theorem outs_sound {X0 : Cx} {β0 : Nat → Pl} {D0 : Nat → Prop} {S0 : Nat → CS} {Z0 : CS} {w0 : World} {sl0 : Nat → DV} {outs0 : List CV} {a0 : Act} {ob0 : Nat → OB} (hr0 : RelAt X0 β0 D0 S0 Z0 sl0 ob0 outs0 a0 w0) :
    ∀ (ps : List PM) (y : Sig.OutP ps) (pa : List PA) (i : Nat) (vs : List Value) (T U : CS) (β : Nat → Pl) (D : Nat → Prop) (S : Nat → CS) (ob : Nat → OB) (r : List (Nat × OB) × Nat), (outsM ps y pa i).ev ob0 = some r → OutsR Z w ps y vs T → PAL X0 β0 D0 Z0 w0 ob0 ps pa vs → BoxRest X β0 β D Z w ob0 ps pa U →
      (∀ o, D0 o → D o ∧ β o = β0 o) → RelAt X β D S Z sl ob outs a w → Free X S Z w (T.or U) → T.apart U → (PA.ids pa).Nodup → (∀ z, ob0 z = .non → i ≤ z → ob z = .non) →
      ∃ β' D' S', RelAt X β' D' S' Z sl (updAll ob r.1) outs a w ∧ Grew X β D S Z w (T.or U) β' D' S' ∧ (∀ z ∈ r.1, z.1 ∈ PA.ids pa ∨ (i ≤ z.1 ∧ ob0 z.1 = .non)) ∧ ∀ o ∈ PA.ids pa, ∃ z ∈ r.1, z.1 = o := by
  intro ps
  induction ps with
  | nil =>
    intro y pa i vs T U β D S ob r h hO hP hB hD hr hf hTU hnd hn
    match pa with
    | [] =>
      cases h
      exact ⟨β, D, S, hr, ⟨fun o d => ⟨d, rfl⟩, fun o b j s => .inl s⟩, fun z hz => (by cases hz), fun o ho => (by cases ho)⟩
    | x :: pa => exact (hP : False).elim
  | cons p ps ih =>
    intro y pa i vs T U β D S ob r h hO hP hB hD hr hf hTU hnd hn
    have skip : ∀ (y : Sig.OutP ps), (outsM ps y pa i).ev ob0 = some r → OutsR Z w ps y (vs.drop 1) T → PAL X0 β0 D0 Z0 w0 ob0 ps pa (vs.drop 1) → BoxRest X β0 β D Z w ob0 ps pa U →
        ∃ β' D' S', RelAt X β' D' S' Z sl (updAll ob r.1) outs a w ∧ Grew X β D S Z w (T.or U) β' D' S' ∧ (∀ z ∈ r.1, z.1 ∈ PA.ids pa ∨ (i ≤ z.1 ∧ ob0 z.1 = .non)) ∧ ∀ o ∈ PA.ids pa, ∃ z ∈ r.1, z.1 = o :=
      fun y h1 h2 h3 h4 => ih y pa i _ T U β D S ob r h1 h2 h3 h4 hD hr hf hTU hnd hn
    cases p with
    | b κ =>
      match vs, hP with
      | v :: vs, hP => exact skip y h hO hP hB
    | r κ =>
      match vs, hP with
      | v :: vs, hP => exact skip y h hO hP hB
    | c e d =>
      match vs, hP with
      | v :: vs, hP => exact skip y h hO hP hB
    | rr κ => cases h
    | q κ e =>
      match vs, hP with
      | v :: vs, hP => exact skip y h hO hP hB
    | z e =>
      match vs, hP with
      | v :: vs, hP => exact skip y h hO hP hB
    | f p q =>
      match vs, hP with
      | v :: vs, hP => exact skip y h hO hP hB
    | m κ =>
      match pa, vs, hP with
      | .cells cs :: pa, v :: vs, ⟨⟨us, x, hp, hall, hin⟩, hP⟩ =>
        obtain ⟨v', us', r', T1, T2, e1, hp', h1, h2, hs⟩ := hO
        cases e1
        rw [← pk_inj hp hp'] at h1
        simp only [outsM] at h
        obtain ⟨u, h3, h4⟩ := ev_bind_some h
        obtain ⟨r1, h5, h6⟩ := ev_bind_some h4
        cases h6
        unfold K.inPlace at hin
        obtain ⟨x0, h7, h8⟩ := ev_bind_some hin
        split at h8
        · rename_i e2
          have hl := H.len _ _ _ _ _ h1
          obtain ⟨cs1, us2, S1, k1, k2, k3, k4, k5, k6, k7, k8⟩ := outM_sound hr0 κ y.1 cs us x0 u T1 β D S ob h7 h3 hall hD (by rw [← hl, List.take_length]; exact h1) hr (hf.le (hs.l.trans (CS.le_l _ _)))
          rw [← k4, e2, List.append_nil] at k1
          subst k1
          simp only [PA.ids] at hnd
          have n0 := List.nodup_append.1 hnd
          obtain ⟨β2, D2, S2, g1, g2, g3, g4⟩ := ih y.2 pa i vs T2 U β D S1 _ r1 h5 h2 hP hB hD k5 ((hf.le (CS.or_le (hs.r.trans (CS.le_l _ _)) (CS.le_r _ _))).grew k6 (CS.or_apart hs.d.symm (hTU.mono hs.l (CS.le.refl _)).symm)) (hTU.mono hs.r (CS.le.refl _)) n0.2.1 (fun z hz hi => by
            rw [updAll_out]
            · exact hn z hz hi
            · intro q hq e
              exact hr0.dom _ (place_dom cs us hall _ (k7 q hq)) (e ▸ hz))
          refine ⟨β2, D2, S2, by rw [updAll_app]; exact g1, k6.trans g2 (hs.l.trans (CS.le_l _ _)) (CS.or_le (hs.r.trans (CS.le_l _ _)) (CS.le_r _ _)), fun z hz => ?_, fun o ho => ?_⟩
          · simp only [PA.ids]
            rcases List.mem_append.1 hz with hz | hz
            · exact .inl (List.mem_append.2 (.inl (k7 z hz)))
            · exact (g3 z hz).imp (fun h => List.mem_append.2 (.inr h)) id
          · simp only [PA.ids] at ho
            rcases List.mem_append.1 ho with ho | ho
            · obtain ⟨z, hz, e⟩ := k8 o ho; exact ⟨z, List.mem_append.2 (.inl hz), e⟩
            · obtain ⟨z, hz, e⟩ := g4 o ho; exact ⟨z, List.mem_append.2 (.inr hz), e⟩
        · cases h8
    | p κ q q' =>
      match pa, vs, hP with
      | .box o j :: pa, v :: vs, ⟨⟨hd, hv, cs0, ho, hl0⟩, hP⟩ =>
        obtain ⟨b, off, r', T1, T2, e1, ⟨us, T', h1, hT', h2⟩, h3, hs⟩ := hO
        cases e1
        cases hv
        obtain ⟨cs, U1, U2, e2, hB1, hB2, hU⟩ := hB
        rw [ho] at e2
        cases e2
        simp only [outsM, M.ev, ho] at h
        obtain ⟨r1, h5, h6⟩ := ev_bind_some h
        obtain ⟨h7, h8⟩ := ev_newAll h6
        cases h8
        have gi := give_ids κ q' y.1 i
        have hus := H.len _ _ _ _ _ h1
        have hf1 : Free X S Z w T' := hf.le (hT'.trans (hs.l.trans (CS.le_l _ _)))
        obtain ⟨β1, D1, S1, k1, k2, k3⟩ := give_sound κ q' y.1 i us T' β D S ob h1 hr hf1 (fun z hz => hn z.1 (h7 z hz) (gi.2 z hz).1)
        simp only [PA.ids] at hnd
        have n0 := List.nodup_cons.1 hnd
        obtain ⟨β2, D2, S2, g1, g2, g3, g4⟩ := ih y.2 pa _ vs T2 U2 β1 D1 S1 _ r1 h5 h3 hP (BoxRest.grew k3 _ _ _ hB2) (fun o d => ⟨(k3.d o (hD o d).1).1, (k3.d o (hD o d).1).2.trans (hD o d).2⟩) k1
          ((hf.le (CS.or_le (hs.r.trans (CS.le_l _ _)) (hU.r.trans (CS.le_r _ _)))).grew k3 (CS.or_apart (hs.d.symm.mono (CS.le.refl _) hT') ((hTU.mono hs.l hU.r).mono hT' (CS.le.refl _)).symm)) (hTU.mono hs.r hU.r) n0.2 (fun z hz hi => by
            rw [updAll_out]
            · exact hn z hz (Nat.le_trans gi.1 hi)
            · intro x hx e; have := (gi.2 x hx).2; omega)
        have hbo : ∀ z ∈ (κ.give q' y.1 i).2.1 ++ r1.1, z.1 ≠ o := fun z hz e => by
          rcases List.mem_append.1 hz with hz | hz
          · have := h7 z hz; rw [e, ho] at this; cases this
          · rcases g3 z hz with h | ⟨_, h⟩
            · exact n0.1 (e ▸ h)
            · rw [e, ho] at h; cases h
        have e3 : updAll ob ((o, .box (splice cs0 j (κ.give q' y.1 i).1)) :: (κ.give q' y.1 i).2.1 ++ r1.1) = upd (updAll (updAll ob (κ.give q' y.1 i).2.1) r1.1) o (.box (splice cs0 j (κ.give q' y.1 i).1)) := by
          rw [List.cons_append]
          show updAll (upd ob o _) _ = _
          rw [upd_updAll _ _ _ _ hbo, updAll_app]
        have hDo := hD o hd
        have hD2 : D2 o ∧ β2 o = β0 o := by
          have x1 := k3.d o hDo.1
          have x2 := g2.d o x1.1
          exact ⟨x2.1, x2.2.trans (x1.2.trans hDo.2)⟩
        let C : CS := fun b i => b = (β0 o).b ∧ (β0 o).j + j ≤ i ∧ i < (β0 o).j + j + κ.n
        have hC : ∀ b i, C b i → T1 b i ∧ ¬ T' b i := fun b i ⟨hb, hi1, hi2⟩ => by
          subst hb
          have hi3 : i - ((β0 o).j + j) < us.length := by omega
          have := h2 (i - ((β0 o).j + j)) us[i - ((β0 o).j + j)] (by simp [hi3])
          rw [show (β0 o).j + j + (i - ((β0 o).j + j)) = i by omega] at this
          exact this.2
        have hCT : C.le T1 := fun b i h => (hC b i h).1
        have hTo : (C.or U1).le (T.or U) := CS.or_le (hCT.trans (hs.l.trans (CS.le_l _ _))) (hU.l.trans (CS.le_r _ _))
        have hfC := hf.le hTo
        have hap1 : (C.or U1).apart T' := CS.or_apart (fun b i c t => (hC b i c).2 t) ((hTU.mono hs.l hU.l).mono hT' (CS.le.refl _)).symm
        have hap2 : (C.or U1).apart (T2.or U2) := CS.or_apart (CS.apart_or (hs.d.mono hCT (CS.le.refl _)) (hTU.mono (hCT.trans hs.l) hU.r)) (CS.apart_or (hTU.mono hs.r hU.l).symm hU.d)
        have hf2 := (hfC.grew k3 hap1).grew g2 hap2
        have kg : Grew X β D S Z w (T.or U) β2 D2 S2 := k3.trans g2 (hT'.trans (hs.l.trans (CS.le_l _ _))) (CS.or_le (hs.r.trans (CS.le_l _ _)) (hU.r.trans (CS.le_r _ _)))
        refine ⟨β2, D2, upd S2 o (C.or U1), ?_, ⟨kg.d, fun z b i s => ?_⟩, fun z hz => ?_, fun z hz => ?_⟩
        · rw [e3]
          refine g1.set2 o _ (by simp) CS.no (C.or U1) Z (CS.no_le _) (Agr.refl _ _) (CS.le.refl _) (fun z _ => g1.sz z) (fun z _ => hf2.s z) hf2.z hf2.f hf2.b g1.zin g1.zbd ?_
          intro z c hc
          rw [hD2.2]
          by_cases hz : κ.n = 0
          · have hsp : splice cs0 j (κ.give q' y.1 i).1 = cs0 := by
              have hl := give_len κ q' y.1 i
              rw [hz] at hl
              rw [List.length_eq_zero_iff.1 hl]
              cases cs0 <;> rfl
            rw [hsp] at hc
            obtain ⟨x1, v, x2, x3⟩ := hB1 z c hc (by omega)
            exact ⟨.inr x1, v, x2, (x3.grew k3).grew g2⟩
          · have hlen := give_len κ q' y.1 i
            rw [splice_get _ _ _ _ (by rw [hlen]; exact hl0.resolve_left hz), hlen] at hc
            split at hc
            · rename_i hin
              obtain ⟨u, x1, x2⟩ := All2.get _ _ k2 _ _ hc
              have x3 := h2 (z - j) u x1
              rw [show (β0 o).j + j + (z - j) = (β0 o).j + z by omega] at x3
              exact ⟨.inl ⟨rfl, by omega, by omega⟩, u, x3.1, x2.grew g2⟩
            · rename_i hin
              obtain ⟨x1, v, x2, x3⟩ := hB1 z c hc hin
              exact ⟨.inr x1, v, x2, (x3.grew k3).grew g2⟩
        · by_cases e : z = o
          · subst e; rw [upd_same] at s; exact .inr (hTo b i s)
          · rw [upd_ne _ _ e] at s; exact kg.s z b i s
        · rcases List.mem_append.1 hz with hz | hz
          · rcases List.mem_cons.1 hz with rfl | hz
            · exact .inl (.head _)
            · exact .inr ⟨(gi.2 z hz).1, h7 z hz⟩
          · rcases g3 z hz with h | ⟨h, h'⟩
            · exact .inl (.tail _ h)
            · exact .inr ⟨Nat.le_trans gi.1 h, h'⟩
        · rcases List.mem_cons.1 hz with rfl | hz
          · exact ⟨_, List.mem_append.2 (.inl (.head _)), rfl⟩
          · obtain ⟨x, hx, e⟩ := g4 z hz
            exact ⟨x, List.mem_append.2 (.inr hx), e⟩
end
end Go.Dn
/- Calls. -/
set_option linter.unusedVariables false
namespace Go.Dn

theorem run_value {P : Program} {o : Oper} {cl : Call} {x : Operand} {a : Act} {w : World} (hop : o.op = .call cl) (hb : cl.callee = .value x) {f : FuncId} {caps : Array Value} (hv : a.eval x = .func (.func f) #[] caps) {fn : Func} (hf : P.funcs[f]? = some fn) (hbd : fn.body.isSome = true) (hn : (fn.name == "runtime.NumGoroutine") = false) :
    (execOp a.eval o).run P w = .ok (.enter f (cl.args.map a.eval ++ caps)) w := by
  unfold execOp; rw [hop]
  have hbn : fn.body ≠ none := by intro h; rw [h] at hbd; cases hbd
  have hn' : fn.name ≠ "runtime.NumGoroutine" := by simpa using hn
  simp [resolve, hb, hv, Deferred.ofValue, invoke, callFunc, hf, hn', hbn]

section
variable {X : Cx} {β : Nat → Pl} {D : Nat → Prop} {S : Nat → CS} {Z : CS} {sl : Nat → DV} {ob : Nat → OB} {outs : List CV} {a : Act} {w : World}

theorem argX_sound (hr : RelAt X β D S Z sl ob outs a w) : ∀ (p : K) (ds : List DV) (vs : List Value) (x : p.T), (argX p ds).ev ob = some x → All2 (DR (VR X β D Z w)) ds vs → ∃ Z1, Z.le Z1 ∧ Bd Z1 w ∧ ArgV Z1 w p x vs
  | .unit, ds, vs, x, h, hall => by
    match ds, vs, hall with
    | [], [], _ => exact ⟨Z, CS.le.refl _, hr.zbd, rfl⟩
    | [], _ :: _, hall => exact (hall : False).elim
    | _ :: _, _, _ => cases h
  | .pair κ b, ds, vs, x, h, hall => by
    match ds, vs, hall with
    | [], _, _ => cases h
    | _ :: _, [], hall => exact (hall : False).elim
    | d :: ds, v :: vs, ⟨hd, hall⟩ =>
      simp only [argX] at h
      obtain ⟨cs, h1, h2⟩ := ev_bind_some h
      obtain ⟨y, h3, h4⟩ := ev_bind_some h2
      obtain ⟨z, h5, h6⟩ := ev_bind_some h4
      cases h6
      obtain ⟨us, hp, hu⟩ := dr_as hd h1
      have e0 := rdDeadAll h3
      obtain ⟨T1, Z1, g⟩ := ofAll_sound hr h3 hu (by rw [e0]; exact .nil) (by rw [e0]; simp)
      obtain ⟨Z2, k1, k2, k3⟩ := argX_sound hr b ds vs z h5 hall
      refine ⟨Z1.or Z2, k1.trans (CS.le_r _ _), fun c j hz => ?_, v, us, vs, rfl, hp, H.more (CS.le_l _ _) _ _ _ _ _ (H.read _ _ _ _ _ g.h), argV_more b z vs k3⟩
      rcases hz with hz | hz
      · rcases g.z' c j hz with hz | ⟨o, _, hz⟩
        · exact hr.zbd c j hz
        · exact (hr.sin o).2 c j hz
      · exact k2 c j hz
  | .int _, ds, vs, x, h, hall => by cases ds <;> cases h
  | .bool, ds, vs, x, h, hall => by cases ds <;> cases h
  | .str, ds, vs, x, h, hall => by cases ds <;> cases h
  | .sl _, ds, vs, x, h, hall => by cases ds <;> cases h
where argV_more {Z1 Z2 : CS} : ∀ (p : K) (x : p.T) (vs : List Value), ArgV Z2 w p x vs → ArgV (Z1.or Z2) w p x vs
  | .unit, _, _, h => h
  | .pair κ b, x, vs, h => by
    obtain ⟨v, us, r, e, h1, h2, h3⟩ := h
    exact ⟨v, us, r, e, h1, H.more (CS.le_r _ _) _ _ _ _ _ h2, argV_more b x.2 r h3⟩
  | .int _, _, _, h => h.elim
  | .bool, _, _, h => h.elim
  | .str, _, _, h => h.elim
  | .sl _, _, _, h => h.elim
theorem all2_map {α β γ : Type} {R : β → γ → Prop} (f : α → β) (g : α → γ) (h : ∀ x, R (f x) (g x)) : ∀ l : List α, All2 R (l.map f) (l.map g)
  | [] => trivial
  | x :: l => ⟨h x, all2_map f g h l⟩
/-- A function value is called. -/
theorem op_fnv (hr : RelAt X β D S Z sl ob outs a w) {st : St} (hs : st.slot = sl) {o : Oper} {cl : Call} {x : Operand} (hop : o.op = .call cl) (hb : cl.callee = .value x) {p r : K} {g : p.T → Option r.T} (hd : FnR X p r g (a.eval x)) {y : p.T} (hy : (argX p (cl.args.toList.map st.eval)).ev ob = some y)
    {z : r.T} (hz : g y = some z) : Does X.P o a w (After X sl ob outs a (.e2 (.v r.agg (r.cvs z)) [])) := by
  obtain ⟨f, caps, fn, h1, h2, h3, h4, h5, h6⟩ := hd
  obtain ⟨Z1, k1, k2, k3⟩ := argX_sound hr p _ (cl.args.toList.map a.eval) y hy (all2_map _ _ (fun x => hr.eval st hs x) _)
  refine does_enter (run_value hop hb h1 h2 h3 h4) ?_
  have := h6 y z hz w Z1 _ hr.agr (hr.z0.trans k1) k2 k3
  rw [← Array.toList_map, Array.toArray_toList] at this
  refine this.mono fun e w2 ⟨u, us, he, hp, hu, ha⟩ => ⟨u, he, after_pure (hr.world ha) ?_⟩
  exact dr_of (cvs_rd r .rd (.inl rfl) _ _ _ (H.more (CS.no_le _) _ _ _ _ _ hu)) (fun _ _ h => vr_noskip h) (cvs_len r z) hp

/-- What a closure's function takes behind its parameters. -/
theorem capX_sound (hr : RelAt X β D S Z sl ob outs a w) : ∀ (ps : List PM) (caps : List (Nat × Nat)) (c : Sig.In ps × List Nat), (capX ps caps).ev ob = some c → (∀ x ∈ caps, D x.1) →
    ∀ (W Zc : CS), (∀ x ∈ caps, W.apart (S x.1)) → Z.le Zc → (US S c.2).le Zc → W.apart Zc → W.le X.F → ∀ (w1 : World) (Z1 : CS), Agr W w w1 → Zc.le Z1 →
      ArgsR X.P Z1 CS.no w1 ps c.1 (caps.map fun x => .pointer (some ⟨(β x.1).b, (β x.1).j + x.2, none⟩)) CS.no
  | [], caps, c, h, hD, W, Zc, hW, hZ, hL, hA, hWF, w1, Z1, ha, hz => by
    match caps with
    | [] => cases h; rfl
    | _ :: _ => cases h
  | .rr κ :: ps, caps, c, h, hD, W, Zc, hW, hZ, hL, hA, hWF, w1, Z1, ha, hz => by
    match caps with
    | [] => cases h
    | (o, j) :: caps =>
      simp only [capX, M.ev] at h
      split at h
      · rename_i cs0 hob
        split at h
        · rename_i e0 y0 i0 hcell
          obtain ⟨cs, h1, h2⟩ := ev_bind_some h
          obtain ⟨x, h3, h4⟩ := ev_bind_some h2
          obtain ⟨y, h5, h6⟩ := ev_bind_some h4
          cases h6
          have hDo := hD (o, j) (.head _)
          have hor := hr.objs o
          rw [hob] at hor
          obtain ⟨hS, v, hwr, hvr⟩ := hor j _ hcell
          obtain ⟨us, b, off, hv, hu, hat⟩ := loadM_at hr hvr h1
          have e1 := rdDeadAll h3
          obtain ⟨T1, Z2, g⟩ := ofAll_sound hr h3 hu (by rw [e1]; exact .nil) (by rw [e1]; simp)
          have hZ2 : Z2.le Zc := g.z'.trans (CS.or_le hZ ((US.le fun z hz => by rw [e1] at hz; exact List.mem_append.2 (.inl (by simpa using hz))).trans hL))
          refine ⟨_, _, b, off, us, _, rfl, ?_, fun h => h, H.more (hZ2.trans hz) _ _ _ _ _ (H.agr ha (hA.mono (CS.le.refl _) hZ2) _ _ _ _ _ (CS.apart_no _) (H.read _ _ _ _ _ g.h)), fun i u hi => ⟨?_, fun h => h⟩, capX_sound hr ps caps y h5 (fun x hx => hD x (.tail _ hx)) W Zc (fun x hx => hW x (.tail _ hx)) hZ ((US.le fun z hz => List.mem_append.2 (.inr hz)).trans hL) hA hWF w1 Z1 ha hz⟩
          · rw [← hv]
            exact ha.cell (fun t => hW (o, j) (.head _) _ _ t hS) hwr.1
          · obtain ⟨q1, q2⟩ := hat i u hi
            refine ha.cell (fun t => ?_) q1
            rcases q2 with ⟨o', ho', hs⟩ | hs | hs
            · cases ho'
            · exact hA _ _ t (hZ _ _ hs)
            · exact hs (hWF _ _ t)
        · cases h
      · cases h
  | .r κ :: ps, caps, c, h, hD, W, Zc, hW, hZ, hL, hA, hWF, w1, Z1, ha, hz => by
    match caps with
    | [] => cases h
    | (o, j) :: caps =>
      simp only [capX] at h
      obtain ⟨cs, h1, h2⟩ := ev_bind_some h
      obtain ⟨x, h3, h4⟩ := ev_bind_some h2
      obtain ⟨y, h5, h6⟩ := ev_bind_some h4
      cases h6
      have hDo := hD (o, j) (.head _)
      obtain ⟨us, b, off, hv, hu, hat⟩ := loadM_at hr (c := .box o j) (v := .pointer (some ⟨(β o).b, (β o).j + j, none⟩)) ⟨hDo, rfl⟩ h1
      cases hv
      have e0 := rdDeadAll h3
      obtain ⟨T1, Z2, g⟩ := ofAll_sound hr h3 hu (by rw [e0]; exact .nil) (by rw [e0]; simp)
      have hZ2 : Z2.le Zc := g.z'.trans (CS.or_le hZ ((US.le fun z hz => by rw [e0] at hz; exact List.mem_append.2 (.inl (by simpa using hz))).trans hL))
      refine ⟨_, _, us, _, rfl, H.more (hZ2.trans hz) _ _ _ _ _ (H.agr ha (hA.mono (CS.le.refl _) hZ2) _ _ _ _ _ (CS.apart_no _) (H.read _ _ _ _ _ g.h)), fun i u hi => ⟨?_, fun h => h⟩, capX_sound hr ps caps y h5 (fun x hx => hD x (.tail _ hx)) W Zc (fun x hx => hW x (.tail _ hx)) hZ ((US.le fun z hz => List.mem_append.2 (.inr hz)).trans hL) hA hWF w1 Z1 ha hz⟩
      obtain ⟨q1, q2⟩ := hat i u hi
      refine ha.cell (fun t => ?_) q1
      rcases q2 with ⟨o', ho', hs⟩ | hs | hs
      · rw [List.mem_singleton.1 ho'] at hs; exact hW (o, j) (.head _) _ _ t hs
      · exact hA _ _ t (hZ _ _ hs)
      · exact absurd ((hr.sin o).1 _ _ (by
          have hob := hr.objs o
          have h1' := h1
          simp only [loadM, M.ev] at h1'
          split at h1'
          · rename_i cs0 ho
            rw [ho] at hob
            obtain ⟨e1, e2⟩ := ev_takeN h1'
            have hl := hu.len
            have hi' : i < us.length := (List.getElem?_eq_some_iff.1 hi).1
            have hi2 : i < cs.length := by omega
            rw [e1] at hi2
            simp at hi2
            have hi3 : j + i < cs0.length := by omega
            have := (hob (j + i) cs0[j + i] (by simp [hi3])).1
            rwa [← Nat.add_assoc] at this
          · cases h1')) hs
  | .b _ :: _, caps, c, h, _, _, _, _, _, _, _, _, _, _, _, _ => by cases caps <;> cases h
  | .p _ _ _ :: _, caps, c, h, _, _, _, _, _, _, _, _, _, _, _, _ => by cases caps <;> cases h
  | .m _ :: _, caps, c, h, _, _, _, _, _, _, _, _, _, _, _, _ => by cases caps <;> cases h
  | .c _ _ :: _, caps, c, h, _, _, _, _, _, _, _, _, _, _, _, _ => by cases caps <;> cases h
  | .q _ _ :: _, caps, c, h, _, _, _, _, _, _, _, _, _, _, _, _ => by cases caps <;> cases h
  | .z _ :: _, caps, c, h, _, _, _, _, _, _, _, _, _, _, _, _ => by cases caps <;> cases h
  | .f _ _ :: _, caps, c, h, _, _, _, _, _, _, _, _, _, _, _, _ => by cases caps <;> cases h
theorem splitX_sound {P : Program} {Z1 : CS} {w1 : World} : ∀ (q : List PM) (n : Nat) (p : K) (cap : Sig.In (q.drop n)) (sx : p.T → Sig.In q), splitX q n p cap = some sx → ∀ (x : p.T) (vs cvs : List Value), ArgV Z1 w1 p x vs → ArgsR P Z1 CS.no w1 (q.drop n) cap cvs CS.no → ArgsR P Z1 CS.no w1 q (sx x) (vs ++ cvs) CS.no
  | ps, 0, p, cap, sx, h, x, vs, cvs, hv, hc => by
    cases p with
    | unit =>
      simp only [ArgV] at hv
      subst hv
      cases ps <;> (simp only [splitX] at h; cases h; exact hc)
    | _ => cases ps with
      | nil => cases h
      | cons p' ps => cases p' <;> cases h
  | [], n + 1, p, cap, sx, h, x, vs, cvs, hv, hc => by cases p <;> cases h
  | m :: ps, n + 1, p, cap, sx, h, x, vs, cvs, hv, hc => by
    cases m <;> try (cases p <;> cases h; done)
    cases p <;> try (cases h; done)
    rename_i κ a b
    simp only [splitX] at h
    split at h
    · rename_i e _
      subst e
      cases hs : splitX ps n b cap with
      | none => rw [hs] at h; cases h
      | some f =>
        rw [hs] at h
        simp only [Option.bind_some, Option.some.injEq] at h
        subst h
        obtain ⟨v, us, r, rfl, h1, h2, h3⟩ := hv
        exact ⟨v, us, r ++ cvs, rfl, h1, h2, splitX_sound ps n b cap f hs x.2 r cvs h3 hc⟩
    · cases h
theorem FnsOk.get {P : Program} {E : Env} {k : Nat} (h : FnsOk P E k) {f : Nat} {ent : FEnt} (he : (M.ofO (findO E.fns f)).ev ob = some ent) : Contract P f ent.sg (ent.F k) := h f ent (ev_ofO he)
theorem oneRes_sound {Z : CS} {w : World} : ∀ (sg : Sig) (r : K) (g : sg.Out → r.T), oneRes sg r = some g → ∀ (y : sg.Out) (rv : List Value) (T : CS), r.flat = true → ResR Z w sg.res y.1 rv T → ∃ v us, rv = [v] ∧ pk r us v ∧ H CS.no w .rd r (g y) us CS.no
  | ⟨ps, []⟩, r, g, h, y, rv, T, hf, hR => by cases h
  | ⟨ps, _ :: _ :: _⟩, r, g, h, y, rv, T, hf, hR => by cases h
  | ⟨ps, [(κ, q)]⟩, r, g, h, y, rv, T, hf, hR => by
    simp only [oneRes] at h
    split at h
    · rename_i e _
      subst e
      cases h
      obtain ⟨v, us, r', T3, T4, e2, hp, hh, hr', _⟩ := hR
      simp only [ResR] at hr'
      subst hr'
      exact ⟨v, us, e2, hp, H.flat _ q .rd _ us _ _ hf hh⟩
    · cases h
/-- A closure, as a function for one call. -/
theorem closure_sound (hr : RelAt X β D S Z sl ob outs a w) {E : Env} {k : Nat} (hF : FnsOk X.P E k) {p r : K} {f : Nat} {caps : List (Nat × Nat)} {d : DV × List Nat} (h : (fnOf E k p r f caps).ev ob = some d) {v : Value} (hv : VR X β D Z w (.clo f caps) v) :
    ∃ g, d.1 = .v false [.fnv p r g] ∧ ∀ W Zc, (∀ x ∈ caps, W.apart (S x.1)) → Z.le Zc → (US S d.2).le Zc → W.apart Zc → W.le X.F → FnR ⟨X.P, 0, W, w, Zc, []⟩ p r g v := by
  unfold fnOf at h
  obtain ⟨ent, h1, h2⟩ := ev_bind_some h
  obtain ⟨c, h3, h4⟩ := ev_bind_some h2
  obtain ⟨sx, h5, h6⟩ := ev_bind_some h4
  obtain ⟨g, h7, h8⟩ := ev_bind_some h6
  cases hfl : r.flat with
  | false => rw [hfl] at h8; cases h8
  | true =>
    rw [hfl] at h8
    cases h8
    obtain ⟨fn, k1, k2, k3, k4⟩ := hF.get h1
    refine ⟨_, rfl, fun W Zc hW hZ hL hA hWF => ⟨f, _, fn, hv.1, k1, k2, k3, hfl, fun x y hx w1 Z1 vs ha hz hb hav => ?_⟩⟩
    replace hx : (ent.F k (sx x)).bind (fun y => some (g y)) = some y := hx
    cases hy : ent.F k (sx x) with
    | none => rw [hy] at hx; cases hx
    | some y' =>
      rw [hy] at hx
      simp only [Option.bind_some, Option.some.injEq] at hx
      have hca := capX_sound hr _ _ _ h3 hv.2 W Zc hW hZ hL hA hWF w1 Z1 ha hz
      have := k4 (sx x) y' hy w1 Z1 CS.no _ hb (fun _ _ t => t.elim) (CS.no_apart _) (splitX_sound _ _ _ _ _ (ev_ofO h5) x vs _ hav hca)
      rw [List.append_toArray]
      refine this.mono fun e w2 ⟨u, rv, Z2, T1, T2, he, hE⟩ => ?_
      obtain ⟨v', us, e1, e2, e3⟩ := oneRes_sound _ r g (ev_ofO h7) y' rv T1 hfl hE.res
      subst e1
      refine ⟨u, us, he, by rw [hE.v]; exact e2, ?_, hE.agr⟩
      rw [← hx]
      exact e3
theorem fnArgs_sound (hr : RelAt X β D S Z sl ob outs a w) {E : Env} {k : Nat} (hF : FnsOk X.P E k) : ∀ (ps : List PM) (ds : List DV) (vs : List Value) (x : List DV × List Nat × List Nat), (fnArgs E k ps ds).ev ob = some x → All2 (DR (VR X β D Z w)) ds vs →
    ∀ (B L : List Nat), (∀ o ∈ x.2.1, o ∈ B) → (∀ o ∈ x.2.2, o ∈ L) → ArgR (DR (VR X β D Z w)) (fun p r g v => ∀ W Zc, ((∀ o ∈ B, W.apart (S o)) ∧ Z.le Zc ∧ (US S L).le Zc ∧ W.apart Zc ∧ W.le X.F) → FnR ⟨X.P, 0, W, w, Zc, []⟩ p r g v) ps x.1 vs := by
  intro ps
  induction ps with
  | nil =>
    intro ds vs x h hall B L hB hL
    cases h
    match ds, vs, hall with
    | [], [], _ => trivial
    | d :: ds, v :: vs, hall => exact hall
    | [], _ :: _, hall => exact (hall : False).elim
    | _ :: _, [], hall => exact (hall : False).elim
  | cons p ps ih =>
    intro ds vs x h hall B L hB hL
    match ds, vs, hall with
    | [], [], _ => cases p <;> (cases h; trivial)
    | [], _ :: _, hall => exact (hall : False).elim
    | _ :: _, [], hall => exact (hall : False).elim
    | d :: ds, v :: vs, ⟨hd, hall⟩ =>
      have skip : ∀ x, ((fnArgs E k ps ds).bind fun x => M.ret (d :: x.1, x.2)).ev ob = some x → (∀ o ∈ x.2.1, o ∈ B) → (∀ o ∈ x.2.2, o ∈ L) → ∃ x', x.1 = d :: x' ∧ ArgR (DR (VR X β D Z w)) (fun p r g v => ∀ W Zc, ((∀ o ∈ B, W.apart (S o)) ∧ Z.le Zc ∧ (US S L).le Zc ∧ W.apart Zc ∧ W.le X.F) → FnR ⟨X.P, 0, W, w, Zc, []⟩ p r g v) ps x' vs := fun x h hB hL => by
        obtain ⟨y, h1, h2⟩ := ev_bind_some h
        cases h2
        exact ⟨y.1, rfl, ih ds vs y h1 hall B L hB hL⟩
      cases p with
      | f p r =>
        by_cases hc : ∃ f caps, d = .v false [.clo f caps]
        · obtain ⟨f, caps, rfl⟩ := hc
          simp only [fnArgs] at h
          obtain ⟨g, h1, h2⟩ := ev_bind_some h
          obtain ⟨y, h3, h4⟩ := ev_bind_some h2
          cases h4
          obtain ⟨g', e1, h5⟩ := closure_sound hr hF h1 hd
          refine ⟨.inr ⟨g', e1, fun W Zc hG => h5 W Zc (fun c hc => hG.1 _ (hB _ (List.mem_append.2 (.inl (List.mem_map.2 ⟨c, hc, rfl⟩))))) hG.2.1 ((US.le fun o ho => hL o (List.mem_append.2 (.inl ho))).trans hG.2.2.1) hG.2.2.2.1 hG.2.2.2.2⟩, ih ds vs y h3 hall B L (fun o ho => hB o (List.mem_append.2 (.inr ho))) (fun o ho => hL o (List.mem_append.2 (.inr ho)))⟩
        · have h' : ((fnArgs E k ps ds).bind fun x => M.ret (d :: x.1, x.2)).ev ob = some x := by
            rw [← h]
            cases d with
            | tup l => rfl
            | v b cs =>
              cases b with
              | true => rfl
              | false =>
                match cs, hc with
                | [], _ => rfl
                | c :: _ :: _, _ => cases c <;> rfl
                | [c], hc => cases c <;> first | rfl | exact absurd ⟨_, _, rfl⟩ hc
          obtain ⟨x', e, h1⟩ := skip x h' hB hL
          rw [e]
          exact ⟨.inl hd, h1⟩
      | _ =>
        obtain ⟨x', e, h1⟩ := skip x h hB hL
        rw [e]
        exact ⟨hd, h1⟩
end
end Go.Dn
/- A function of the program is called. -/
set_option linter.unusedVariables false
namespace Go.Dn

theorem updAll_at {α : Type} : ∀ (l : List (Nat × α)) (f g : Nat → α) (i : Nat), f i = g i → updAll f l i = updAll g l i
  | [], f, g, i, h => h
  | (j, x) :: r, f, g, i, h => updAll_at r _ _ i (by
    by_cases e : i = j
    · subst e; rw [upd_same, upd_same]
    · rw [upd_ne _ _ e, upd_ne _ _ e]; exact h)
theorem kill_at (l r : List Nat) (f : Nat → OB) (i : Nat) (h : i ∉ r) : updAll f (killAll (l ++ r)) i = updAll f (killAll l) i := by
  have e : killAll (l ++ r) = killAll l ++ killAll r := by simp [killAll]
  rw [e, updAll_app, kill_out r _ i h]
theorem resDV_rel {R : CV → Value → Prop} : ∀ (l : List (Bool × List CV)) (vs : List Value), All2 (fun d u => DR1 R d.1 d.2 u) l vs → DR R (resDV l) (resV vs)
  | [], vs, h => by
    match vs, h with
    | [], _ => exact ⟨#[], rfl, trivial⟩
  | [(p, cs)], vs, h => by
    match vs, h with
    | [v], h => exact h.1
    | _ :: _ :: _, h => exact h.2.elim
  | x :: y :: l, vs, h => by
    match vs, h with
    | [v], h => exact h.2.elim
    | v :: v' :: vs, h => exact ⟨_, rfl, h⟩

section
variable {X : Cx} {β : Nat → Pl} {D : Nat → Prop} {S : Nat → CS} {Z : CS} {sl : Nat → DV} {ob : Nat → OB} {outs : List CV} {a : Act} {w : World}

theorem sliceOw_dom {e : K} {c : CV} {x : List e.T × List Nat} (h : (sliceOw e c).ev ob = some x) : ∀ o ∈ x.2, ob o ≠ .non := by
  unfold sliceOw at h
  split at h
  · cases h; intro o ho; cases ho
  · rename_i o
    simp only [M.ev] at h
    split at h
    · rename_i e' d l ho
      cases hdf : (d || e'.flat) with
      | false => rw [hdf] at h; cases h
      | true =>
        rw [hdf] at h
        obtain ⟨l', h1, h2⟩ := ev_bind_some h
        cases h2
        intro z hz; rw [List.mem_singleton.1 hz, ho]; simp
    · cases h
  · rename_i o off len
    simp only [M.ev] at h
    split at h
    · rename_i e' d l ho
      cases hdf : (d || e'.flat) with
      | false => rw [hdf] at h; cases h
      | true =>
        rw [hdf] at h
        obtain ⟨_, h⟩ := ev_br h
        obtain ⟨l', h1, h2⟩ := ev_bind_some h
        cases h2
        intro z hz; rw [List.mem_singleton.1 hz, ho]; simp
    · cases h
  · cases h
theorem sliceFl_dom {e : K} {c : CV} {x : List e.T × List Nat} (h : (sliceFl e c).ev ob = some x) : ∀ o ∈ x.2, ob o ≠ .non := by
  unfold sliceFl at h
  split at h
  · cases h; intro o ho; cases ho
  · rename_i o
    simp only [M.ev] at h
    split at h
    · rename_i e' d l ho
      obtain ⟨l', h1, h2⟩ := ev_bind_some h
      cases h2
      intro z hz; rw [List.mem_singleton.1 hz, ho]; simp
    · cases h
  · rename_i o off len
    simp only [M.ev] at h
    split at h
    · rename_i e' d l ho
      obtain ⟨_, h⟩ := ev_br h
      obtain ⟨l', h1, h2⟩ := ev_bind_some h
      cases h2
      intro z hz; rw [List.mem_singleton.1 hz, ho]; simp
    · cases h
  · cases h
theorem dead_dom : ∀ (κ : K) (q : Q) (cs : List CV) (g : Got κ.T), (κ.ofCvs q cs).ev ob = some g → ∀ o ∈ g.dead, ob o ≠ .non
  | .int k, q, cs, g, h => by
    match cs with
    | [] => cases h
    | c :: cs =>
      cases c <;> try (cases h; done)
      simp only [K.ofCvs] at h
      split at h
      · cases h; intro o ho; cases ho
      · cases h
  | .bool, q, cs, g, h => by
    match cs with
    | [] => cases h
    | c :: cs =>
      cases c <;> try (cases h; done)
      simp only [K.ofCvs] at h
      cases h; intro o ho; cases ho
  | .str, q, cs, g, h => by
    match cs with
    | [] => cases h
    | c :: cs =>
      cases c <;> try (cases h; done)
      simp only [K.ofCvs] at h
      cases h; intro o ho; cases ho
  | .unit, q, cs, g, h => by
    simp only [K.ofCvs] at h
    cases h; intro o ho; cases ho
  | .pair x y, q, cs, g, h => by
    simp only [K.ofCvs] at h
    obtain ⟨g1, h1, h2⟩ := ev_bind_some h
    obtain ⟨g2, h3, h4⟩ := ev_bind_some h2
    cases h4
    intro o ho
    rcases List.mem_append.1 ho with ho | ho
    · exact dead_dom x _ _ g1 h1 o ho
    · exact dead_dom y _ _ g2 h3 o ho
  | .sl e, q, cs, g, h => by
    match cs with
    | [] => cases h
    | c :: cs =>
      simp only [K.ofCvs] at h
      unfold sliceOf at h
      split at h
      · obtain ⟨x, h1, h2⟩ := ev_bind_some h
        cases h2; exact sliceFl_dom h1
      · obtain ⟨x, h1, h2⟩ := ev_bind_some h
        cases h2; exact sliceOw_dom h1
      · obtain ⟨x, h1, h2⟩ := ev_bind_some h
        cases h2; intro o ho; cases ho
theorem deadAll_dom {κ : K} {q : Q} {cs : List CV} {g : Got κ.T} (h : (κ.ofAll q cs).ev ob = some g) : ∀ o ∈ g.dead, ob o ≠ .non := by
  unfold K.ofAll at h
  obtain ⟨x, h1, h2⟩ := ev_bind_some h
  split at h2
  · cases h2; exact dead_dom κ q cs _ h1
  · cases h2
theorem args_dead : ∀ (ps : List PM) (ds : List DV) (ar : Args ps), (argsM ps ds).ev ob = some ar → ∀ o ∈ ar.dead, ob o ≠ .non := by
  intro ps
  induction ps with
  | nil =>
    intro ds ar h
    match ds with
    | [] => cases h; intro o ho; cases ho
    | _ :: _ => cases h
  | cons p ps ih =>
    intro ds ar h
    match ds with
    | [] => cases p <;> cases h
    | d :: ds =>
      cases p with
      | b κ =>
        simp only [argsM] at h
        obtain ⟨cs, h1, h2⟩ := ev_bind_some h
        obtain ⟨x, h3, h4⟩ := ev_bind_some h2
        obtain ⟨r, h5, h6⟩ := ev_bind_some h4
        cases h6
        exact ih ds r h5
      | r κ =>
        simp only [argsM] at h
        obtain ⟨c, h0, h1⟩ := ev_bind_some h
        obtain ⟨cs, h1', h2⟩ := ev_bind_some h1
        obtain ⟨x, h3, h4⟩ := ev_bind_some h2
        obtain ⟨r, h5, h6⟩ := ev_bind_some h4
        cases h6
        exact ih ds r h5
      | p κ i q =>
        simp only [argsM] at h
        split at h
        · simp only [M.ev] at h
          split at h
          · obtain ⟨cs, h1, h2⟩ := ev_bind_some h
            obtain ⟨x, h3, h4⟩ := ev_bind_some h2
            obtain ⟨r, h5, h6⟩ := ev_bind_some h4
            cases h6
            intro o ho
            rcases List.mem_append.1 ho with ho | ho
            · exact deadAll_dom h3 o ho
            · exact ih ds r h5 o ho
          · cases h
        · cases h
      | m κ =>
        simp only [argsM] at h
        obtain ⟨cs, h1, h2⟩ := ev_bind_some h
        obtain ⟨x, h3, h4⟩ := ev_bind_some h2
        obtain ⟨r, h5, h6⟩ := ev_bind_some h4
        cases h6
        exact ih ds r h5
      | rr κ => cases h
      | q κ i =>
        simp only [argsM] at h
        split at h
        · simp only [M.ev] at h
          split at h
          · rename_i hob
            obtain ⟨x, h3, h4⟩ := ev_bind_some h
            obtain ⟨r, h5, h6⟩ := ev_bind_some h4
            cases h6
            intro o ho
            rcases List.mem_cons.1 ho with rfl | ho
            · rw [hob]; simp
            rcases List.mem_append.1 ho with ho | ho
            · exact deadAll_dom h3 o ho
            · exact ih ds r h5 o ho
          · cases h
        · cases h
      | c e d' =>
        simp only [argsM] at h
        obtain ⟨c, h0, h1⟩ := ev_bind_some h
        obtain ⟨x, h3, h4⟩ := ev_bind_some h1
        obtain ⟨r, h5, h6⟩ := ev_bind_some h4
        cases h6
        intro o ho
        rcases List.mem_append.1 ho with ho' | ho'
        · clear ho
          cases d' with
          | true => exact sliceOw_dom h3 o ho'
          | false => exact sliceFl_dom h3 o ho'
        · exact ih ds r h5 o ho'
      | z e =>
        simp only [argsM] at h
        split at h
        · obtain ⟨r, h5, h6⟩ := ev_bind_some h
          cases h6
          exact ih ds r h5
        · cases h
      | f p q =>
        simp only [argsM] at h
        split at h
        · split at h
          · obtain ⟨r, h5, h6⟩ := ev_bind_some h
            cases h6
            exact ih ds r h5
          · cases h
        · cases h
theorem ids_dom (hr : RelAt X β D S Z sl ob outs a w) : ∀ (ps : List PM) (pa : List PA) (vs : List Value), PAL X β D Z w ob ps pa vs → ∀ o ∈ PA.ids pa, ob o ≠ .non
  | [], [], _, _, o, ho => by cases ho
  | [], _ :: _, _, h, _, _ => h.elim
  | .p κ _ _ :: ps, .box o j :: pa, v :: vs, ⟨⟨_, _, cs, h, _⟩, hP⟩, z, hz => by
    rcases List.mem_cons.1 hz with rfl | hz
    · rw [h]; simp
    · exact ids_dom hr ps pa vs hP z hz
  | .m κ :: ps, .cells cs :: pa, v :: vs, ⟨⟨us, x, _, hall, _⟩, hP⟩, z, hz => by
    rcases List.mem_append.1 hz with hz | hz
    · exact hr.dom _ (place_dom cs us hall z hz)
    · exact ids_dom hr ps pa vs hP z hz
  | .b _ :: ps, pa, v :: vs, h, z, hz => ids_dom hr ps pa vs h z hz
  | .r _ :: ps, pa, v :: vs, h, z, hz => ids_dom hr ps pa vs h z hz
  | .c _ _ :: ps, pa, v :: vs, h, z, hz => ids_dom hr ps pa vs h z hz
  | .z _ :: ps, pa, v :: vs, h, z, hz => ids_dom hr ps pa vs h z hz
  | .f _ _ :: ps, pa, v :: vs, h, z, hz => ids_dom hr ps pa vs h z hz
  | .q _ _ :: ps, pa, v :: vs, h, z, hz => ids_dom hr ps pa vs h z hz
theorem PAC_le (hr : RelAt X β D S Z sl ob outs a w) : ∀ (ps : List PM) (pa : List PA) (vs : List Value), PAL X β D Z w ob ps pa vs → (PAC β S ps pa).le (US S (PA.ids pa))
  | [], [], _, _ => CS.no_le _
  | [], _ :: _, _, h => h.elim
  | .p κ _ _ :: ps, .box o j :: pa, v :: vs, ⟨⟨_, _, cs, h, hl⟩, hP⟩ => by
    refine CS.or_le (fun b i hh => ⟨o, .head _, ?_⟩) ((PAC_le hr ps pa vs hP).trans (US.le fun z hz => .tail _ hz))
    obtain ⟨rfl, h1, h2⟩ := hh
    have hob := hr.objs o
    rw [h] at hob
    have hi : i - (β o).j < cs.length := by omega
    have := (hob (i - (β o).j) cs[i - (β o).j] (by simp [hi])).1
    rwa [show (β o).j + (i - (β o).j) = i by omega] at this
  | .m κ :: ps, .cells cs :: pa, v :: vs, ⟨_, hP⟩ => CS.or_le (US.le fun z hz => List.mem_append.2 (.inl hz)) ((PAC_le hr ps pa vs hP).trans (US.le fun z hz => List.mem_append.2 (.inr hz)))
  | .b _ :: ps, pa, v :: vs, h => PAC_le hr ps pa vs h
  | .r _ :: ps, pa, v :: vs, h => PAC_le hr ps pa vs h
  | .c _ _ :: ps, pa, v :: vs, h => PAC_le hr ps pa vs h
  | .z _ :: ps, pa, v :: vs, h => PAC_le hr ps pa vs h
  | .f _ _ :: ps, pa, v :: vs, h => PAC_le hr ps pa vs h
  | .q _ _ :: ps, pa, v :: vs, h => PAC_le hr ps pa vs h
/-- The boxes' other cells stay as they were. -/
theorem box_rest (hr : RelAt X β D S Z sl ob outs a w) {T Z3 : CS} {w' : World} (ha : Agr T w w') (hTZ : T.apart Z) (hTF : T.le X.F) (hZ : Z.le Z3) :
    ∀ (ps : List PM) (pa : List PA) (vs : List Value), PAL X β D Z w ob ps pa vs → (PA.ids pa).Nodup → (∀ b j, T b j → US S (PA.ids pa) b j → PAC β S ps pa b j) →
      BoxRest X β β D Z3 w' ob ps pa (fun b j => US S (PA.ids pa) b j ∧ ¬ T b j)
  | [], [], _, _, _, _ => trivial
  | [], _ :: _, _, h, _, _ => h.elim
  | .p κ _ _ :: ps, .box o j :: pa, v :: vs, ⟨⟨_, _, cs, h, hl⟩, hP⟩, hnd, hT => by
    have n0 := List.nodup_cons.1 hnd
    have hob := hr.objs o
    rw [h] at hob
    refine ⟨cs, fun b j => S o b j ∧ ¬ T b j, fun b j => US S (PA.ids pa) b j ∧ ¬ T b j, h, fun i c hi hn => ?_, box_rest hr ha hTZ hTF hZ ps pa vs hP n0.2 (fun b i t s => ?_), fun b i s => ⟨⟨o, .head _, s.1⟩, s.2⟩, fun b i s => ⟨US.le (fun z hz => .tail _ hz) b i s.1, s.2⟩, fun b i s s' => ?_⟩
    · obtain ⟨k1, v, k2, k3⟩ := hob i c hi
      have hnT : ¬ T (β o).b ((β o).j + i) := fun t => by
        rcases hT _ _ t ⟨o, .head _, k1⟩ with q | q
        · exact hn ⟨by omega, by omega⟩
        · obtain ⟨z, hz, q⟩ := PAC_le hr ps pa vs hP _ _ q
          exact hr.apart o z (fun e => n0.1 (e ▸ hz)) _ _ k1 q
      exact ⟨⟨k1, hnT⟩, v, ha.wr hnT k2, k3.mono (fun o d => ⟨d, rfl⟩) hZ ha hTZ hTF⟩
    · rcases hT b i t (US.le (fun z hz => .tail _ hz) b i s) with q | q
      · obtain ⟨z, hz, s⟩ := s
        have h2 : S o b i := by
          obtain ⟨rfl, h1, h2⟩ := q
          have hi : i - (β o).j < cs.length := by omega
          have := (hob (i - (β o).j) cs[i - (β o).j] (by simp [hi])).1
          rwa [show (β o).j + (i - (β o).j) = i by omega] at this
        exact absurd s (fun s => hr.apart o z (fun e => n0.1 (e ▸ hz)) b i h2 s)
      · exact q
    · obtain ⟨z, hz, q⟩ := s'.1
      exact hr.apart o z (fun e => n0.1 (e ▸ hz)) b i s.1 q
  | .m κ :: ps, .cells cs :: pa, v :: vs, ⟨_, hP⟩, hnd, hT => by
    have n0 := List.nodup_append.1 hnd
    have h1 := box_rest hr ha hTZ hTF hZ ps pa vs hP n0.2.1 (fun b i t s => by
      rcases hT b i t (US.le (fun z hz => List.mem_append.2 (.inr hz)) b i s) with q | q
      · obtain ⟨z, hz, s⟩ := s
        obtain ⟨y, hy, q⟩ := q
        exact absurd s (fun s => hr.apart y z (fun e => n0.2.2 y hy z hz e) b i q s)
      · exact q)
    exact boxRest_le ps pa _ _ (fun b i s => ⟨US.le (fun z hz => List.mem_append.2 (.inr hz)) b i s.1, s.2⟩) h1
  | .b _ :: ps, pa, v :: vs, h, hnd, hT => box_rest hr ha hTZ hTF hZ ps pa vs h hnd hT
  | .r _ :: ps, pa, v :: vs, h, hnd, hT => box_rest hr ha hTZ hTF hZ ps pa vs h hnd hT
  | .c _ _ :: ps, pa, v :: vs, h, hnd, hT => box_rest hr ha hTZ hTF hZ ps pa vs h hnd hT
  | .z _ :: ps, pa, v :: vs, h, hnd, hT => box_rest hr ha hTZ hTF hZ ps pa vs h hnd hT
  | .f _ _ :: ps, pa, v :: vs, h, hnd, hT => box_rest hr ha hTZ hTF hZ ps pa vs h hnd hT
  | .q _ _ :: ps, pa, v :: vs, h, hnd, hT => box_rest hr ha hTZ hTF hZ ps pa vs h hnd hT
where boxRest_le {X : Cx} {β0 β : Nat → Pl} {D : Nat → Prop} {Z : CS} {w : World} {ob : Nat → OB} : ∀ (ps : List PM) (pa : List PA) (U U' : CS), U.le U' → BoxRest X β0 β D Z w ob ps pa U → BoxRest X β0 β D Z w ob ps pa U'
  | [], _, _, _, _, _ => trivial
  | .p κ _ _ :: ps, [], U, _, _, h => trivial
  | .p κ _ _ :: ps, .cells _ :: pa, U, _, _, h => trivial
  | .m κ :: ps, [], U, _, _, h => trivial
  | .m κ :: ps, .box _ _ :: pa, U, _, _, h => trivial
  | .p κ _ _ :: ps, .box o j :: pa, U, _, hl, h => by
    obtain ⟨cs, U1, U2, h1, h2, h3, h4⟩ := h
    exact ⟨cs, U1, U2, h1, h2, h3, h4.mono hl⟩
  | .m κ :: ps, .cells _ :: pa, U, _, hl, h => boxRest_le ps pa U _ hl h
  | .b _ :: ps, pa, U, _, hl, h => boxRest_le ps pa U _ hl h
  | .r _ :: ps, pa, U, _, hl, h => boxRest_le ps pa U _ hl h
  | .c _ _ :: ps, pa, U, _, hl, h => boxRest_le ps pa U _ hl h
  | .z _ :: ps, pa, U, _, hl, h => boxRest_le ps pa U _ hl h
  | .f _ _ :: ps, pa, U, _, hl, h => boxRest_le ps pa U _ hl h
  | .q _ _ :: ps, pa, U, _, hl, h => boxRest_le ps pa U _ hl h
  | .rr _ :: ps, pa, U, _, hl, h => trivial

theorem freeze_dom {ob0 : Nat → OB} : ∀ (l : List Nat) (u : List (Nat × OB)), (Dn.freezeAll l).ev ob0 = some u → ∀ o ∈ l, ob0 o ≠ .non
  | [], u, h, x, hx => by cases hx
  | o :: l, u, h, x, hx => by
    simp only [Dn.freezeAll, M.ev] at h
    split at h
    · rename_i ho
      obtain ⟨u', h1, h2⟩ := ev_bind_some h
      rcases List.mem_cons.1 hx with rfl | hx
      · rw [ho]; simp
      · exact freeze_dom l u' h1 x hx
    · cases h
theorem op_call (hr : RelAt X β D S Z sl ob outs a w) {E : Env} {k : Nat} (hF : FnsOk X.P E k) {st : St} (hs : st.slot = sl) {o : Oper} {cl : Call} {x : Operand} (hop : o.op = .call cl) (hb : cl.callee = .value x) {f : FuncId} (hd : a.eval x = .func (.func f) #[] #[]) {ent : FEnt} (hent : (M.ofO (findO E.fns f)).ev ob = some ent)
    {ds : List DV × List Nat × List Nat} (hds : (fnArgs E k ent.sg.ps (cl.args.toList.map st.eval)).ev ob = some ds) {nid : Nat} {e : Eff} (he : (callM k ent nid ds.1 ds.2.1 ds.2.2).ev ob = some e) : Does X.P o a w (After X sl ob outs a e) := by
  obtain ⟨fn, f1, f2, f3, f4⟩ := hF.get hent
  obtain ⟨ds, bx, lent⟩ := ds
  have hval := fnArgs_sound hr hF _ _ (cl.args.toList.map a.eval) _ hds (all2_map _ _ (fun x => hr.eval st hs x) _) bx lent (fun _ h => h) (fun _ h => h)
  simp only [callM] at he
  obtain ⟨ar, h1, h2⟩ := ev_bind_some he
  cases hchk : (nodupN (PA.ids ar.pa ++ ar.dead) && (apartN (lent ++ ar.lent) (PA.ids ar.pa ++ ar.dead) && apartN (bx ++ ar.bx) (PA.ids ar.pa ++ ar.dead))) with
  | false => rw [hchk] at h2; cases h2
  | true =>
    rw [hchk] at h2
    simp only [Bool.and_eq_true] at hchk
    simp only [cond_true, M.ev] at h2
    cases hy : ent.F k ar.x with
    | none => rw [hy] at h2; cases h2
    | some y =>
      rw [hy] at h2
      simp only [Option.bind_some] at h2
      obtain ⟨u, h3, h4⟩ := ev_bind_some h2
      obtain ⟨z, h5, h6⟩ := ev_bind_some h4
      obtain ⟨h7, h8⟩ := ev_newAll h6
      cases h8
      have hnd := nodupN_ok hchk.1
      have hla := apartN_ok hchk.2.1
      have hba := apartN_ok hchk.2.2
      have n0 := List.nodup_append.1 hnd
      let I := PA.ids ar.pa ++ ar.dead
      let G : CS → CS → Prop := fun W Zc => (∀ o ∈ bx, W.apart (S o)) ∧ Z.le Zc ∧ (US S lent).le Zc ∧ W.apart Zc ∧ W.le X.F
      obtain ⟨T, Z1, k⟩ := args_sound hr G ent.sg.ps ds _ ar h1 hval hnd (fun o ho => hla o (List.mem_append.2 (.inr ho)))
      have hTF : T.le X.F := k.tu.trans (US.F hr _)
      have hTZ : T.apart Z := k.d.mono (CS.le.refl _) k.z
      have hTL : T.apart (US S (lent ++ ar.lent)) := (US.apart hr fun o ho h => hla o h ho).mono k.tu (CS.le.refl _)
      have hTc : T.apart (Z1.or (US S lent)) := CS.apart_or k.d (hTL.mono (CS.le.refl _) (US.le fun o h => List.mem_append.2 (.inl h)))
      have hTb : Bd T w := fun b j t => by obtain ⟨o, _, s⟩ := k.tu b j t; exact (hr.sin o).2 b j s
      have hZc : (Z1.or (US S lent)).le (Z.or (US S (ar.dead ++ (lent ++ ar.lent)))) := CS.or_le (k.z'.trans (CS.or_le (CS.le_l _ _) ((US.le fun o h => by simp at h ⊢; rcases h with h | h; exact .inl h; exact .inr (.inr h)).trans (CS.le_r _ _)))) ((US.le fun o h => by simp [h]).trans (CS.le_r _ _))
      have hZcb : Bd (Z1.or (US S lent)) w := fun b j t => by
        rcases hZc b j t with t | ⟨o, _, s⟩
        · exact hr.zbd b j t
        · exact (hr.sin o).2 b j s
      have hTs : ∀ o, o ∉ I → T.apart (S o) := fun o ho b j t s => by
        obtain ⟨z, hz, q⟩ := k.tu b j t
        exact hr.apart z o (fun e => ho (e ▸ hz)) b j q s
      have hG : G T (Z1.or (US S lent)) := ⟨fun o ho => hTs o (hba o (List.mem_append.2 (.inl ho))), k.z.trans (CS.le_l _ _), CS.le_r _ _, hTc, hTF⟩
      have hA := k.h I _ T hG (fun o ho => hba o (List.mem_append.2 (.inr ho))) k.tu (CS.le_l _ _)
      refine does_enter (run_value hop hb hd f1 f2 f3) ?_
      have hcall := f4 ar.x y hy w _ T _ hZcb hTb hTc hA
      rw [show (cl.args.toList.map a.eval).toArray = cl.args.map a.eval by rw [← Array.toList_map, Array.toArray_toList]] at hcall
      rw [show cl.args.map a.eval ++ #[] = cl.args.map a.eval by simp]
      refine hcall.mono fun e w' ⟨v, rv, Z2, T1, T2, he, hE⟩ => ⟨v, he, ?_⟩
      -- stage A
      have hI : ∀ o ∈ I, ob o ≠ .non := fun o ho => by
        rcases List.mem_append.1 ho with ho | ho
        · exact ids_dom hr _ _ _ k.l o ho
        · exact args_dead _ _ _ h1 o ho
      obtain ⟨SA, ZA, hrA, hSA, hSI, hZA, hZA', hun, hsh⟩ : ∃ SA ZA, RelAt X β D SA ZA sl (updAll ob (killAll (ar.dead ++ PA.ids ar.pa) ++ u)) outs a w ∧ (∀ o, (SA o).le (S o)) ∧ (∀ o ∈ I, ∀ b j, ¬ SA o b j) ∧ Z.le ZA ∧ ZA.le (Z.or (US S (lent ++ ar.lent))) ∧ (∀ x ∈ u, ob x.1 ≠ .non) ∧
          ((shares ent.sg.res || sharesP ent.sg.ps) = false ∧ ZA = Z ∨ (∀ o ∈ lent ++ ar.lent, ∀ b j, ¬ SA o b j)) := by
        cases hs : (shares ent.sg.res || sharesP ent.sg.ps) with
        | true =>
          rw [hs] at h3
          simp only [cond_true] at h3
          have h9 := hr.used (dead := ar.dead ++ PA.ids ar.pa) h3 fun o ho h => hla o ho (by simp at h ⊢; exact h.symm)
          refine ⟨_, _, h9, fun o => Sno_le _ _ _, fun o ho b j s => ?_, CS.le_l _ _, CS.le.refl _, fun x hx => freeze_dom _ _ h3 _ (freeze_ids _ _ h3 x hx), .inr fun o ho b j s => ?_⟩
          · rw [Sno_in (by rcases List.mem_append.1 ho with h | h <;> simp [h])] at s; exact s
          · rw [Sno_in (by rcases List.mem_append.1 ho with h | h <;> simp [h])] at s; exact s
        | false =>
          rw [hs] at h3
          cases h3
          have h9 := hr.kill (ar.dead ++ PA.ids ar.pa)
          refine ⟨_, _, by simpa using h9, fun o => Sno_le _ _ _, fun o ho b j s => ?_, CS.le.refl _, CS.le_l _ _, fun x hx => (by cases hx), .inl ⟨rfl, rfl⟩⟩
          rw [Sno_in (by rcases List.mem_append.1 ho with h | h <;> simp [h])] at s; exact s
      have hSAT : ∀ o, T.apart (SA o) := fun o b j t s => by
        by_cases ho : o ∈ I
        · exact hSI o ho b j s
        · exact hTs o ho b j t (hSA o b j s)
      have hTZA : T.apart ZA := (CS.apart_or hTZ hTL).mono (CS.le.refl _) hZA'
      -- what is read behind the call
      obtain ⟨Z3, hZ3, hZ3z, hres, hout⟩ : ∃ Z3 : CS, ZA.le Z3 ∧ (∀ b j, Z3 b j → ZA b j ∨ (Z2 b j ∧ ∀ o ∈ lent ++ ar.lent, ∀ b j, ¬ SA o b j)) ∧ ResR Z3 w' ent.sg.res y.1 rv T1 ∧ OutsR Z3 w' ent.sg.ps y.2 (cl.args.toList.map a.eval) T2 := by
        rcases hsh with ⟨hs, rfl⟩ | hs
        · simp only [Bool.or_eq_false_iff] at hs
          exact ⟨ZA, CS.le.refl _, fun b j z => .inl z, ResR.alone _ _ _ _ hs.1 hE.res, OutsR.alone _ _ _ _ hs.2 hE.out⟩
        · exact ⟨ZA.or Z2, CS.le_l _ _, fun b j z => z.imp id fun z => ⟨z, hs⟩, ResR.more (CS.le_r _ _) _ _ _ _ hE.res, OutsR.more (CS.le_r _ _) _ _ _ _ hE.out⟩
      have hzz : ∀ b j, Z2 b j → Z b j ∨ US S (ar.dead ++ (lent ++ ar.lent)) b j ∨ T b j ∨ w.heap.size ≤ b := fun b j z => by
        rcases hE.zi b j z with z | z
        · rcases hZc b j z with z | z
          · exact .inl z
          · exact .inr (.inl z)
        · exact .inr (.inr z)
      have hrB : RelAt X β D SA Z3 sl (updAll ob (killAll (ar.dead ++ PA.ids ar.pa) ++ u)) outs a w' := by
        refine hrA.step (T := T) (fun o d => ⟨d, rfl⟩) hZ3 hE.agr hTZA hTF (fun o => .inr ⟨rfl, CS.le.refl _, hSAT o, .inl rfl⟩) hrA.dom hrA.apart (fun o b j s z => ?_) (fun o => ⟨(hrA.sin o).1, (hrA.sin o).2.mono hE.agr.size⟩) (fun b j z => ?_) (fun b j z => ?_)
        · rcases hZ3z b j z with z | ⟨z, hl⟩
          · exact hrA.sz o b j s z
          · rcases hzz b j z with z | ⟨i, hi, z⟩ | z | z
            · exact hr.sz o b j (hSA o b j s) z
            · by_cases e : o = i
              · subst e
                rcases List.mem_append.1 hi with hi | hi
                · exact hSI o (List.mem_append.2 (.inr hi)) b j s
                · exact hl o hi b j s
              · exact hr.apart o i e b j (hSA o b j s) z
            · exact hSAT o b j z s
            · have := (hrA.sin o).2 b j s; omega
        · rcases hZ3z b j z with z | ⟨z, _⟩
          · exact hrA.zin b j z
          · rcases hzz b j z with z | ⟨i, hi, z⟩ | z | z
            · exact hr.zin b j z
            · exact .inr ((hr.sin i).1 b j z)
            · exact .inr (hTF b j z)
            · exact .inr (.inr (Nat.le_trans hr.agr.size z))
        · rcases hZ3z b j z with z | ⟨z, _⟩
          · exact hrA.zbd.mono hE.agr.size b j z
          · exact hE.zb b j z
      let U : CS := fun b j => US S (PA.ids ar.pa) b j ∧ ¬ T b j
      have hTPA : ∀ b j, T b j → US S (PA.ids ar.pa) b j → PAC β S ent.sg.ps ar.pa b j := fun b j t s => by
        rcases k.t b j t with q | q
        · exact q
        · exact absurd q (fun q => US.apart hr (fun o ho h => n0.2.2 o ho o h rfl) b j s q)
      have hbox := box_rest hr hE.agr hTZ hTF (hZA.trans hZ3) ent.sg.ps ar.pa _ k.l n0.1 hTPA
      have tw : ∀ (V : CS), V = T1 ∨ V = T2 → (∀ b j, V b j → T b j ∨ w.heap.size ≤ b) := fun V hV b j => by
        rcases hV with rfl | rfl
        · exact hE.i1 b j
        · exact hE.i2 b j
      have tU : ∀ (V : CS), V = T1 ∨ V = T2 → V.apart U := fun V hV b j t s => by
        rcases tw V hV b j t with t | t
        · exact s.2 t
        · obtain ⟨i, _, q⟩ := s.1
          have := (hr.sin i).2 b j q; omega
      have tfree : ∀ (V : CS), V = T1 ∨ V = T2 → Free X SA Z3 w' V := fun V hV => by
        refine ⟨fun b j t => ?_, fun b j t => ?_, fun b j t z => ?_, fun o b j t s => ?_⟩
        · rcases tw V hV b j t with t | t
          · exact hTF b j t
          · exact .inr (Nat.le_trans hr.agr.size t)
        · rcases hV with rfl | rfl
          · exact hE.b1 b j t
          · exact hE.b2 b j t
        · rcases hZ3z b j z with z | ⟨z, _⟩
          · rcases tw V hV b j t with t | t
            · exact hTZA b j t z
            · have := hrA.zbd b j z; omega
          · rcases hV with rfl | rfl
            · exact hE.t1 b j t z
            · exact hE.t2 b j t z
        · rcases tw V hV b j t with t | t
          · exact hSAT o b j t s
          · have := (hrA.sin o).2 b j s; omega
      have hUfree : Free X SA Z3 w' U := by
        refine ⟨fun b j t => US.F hr _ b j t.1, fun b j t => ?_, fun b j t z => ?_, fun o b j t s => ?_⟩
        · obtain ⟨i, _, q⟩ := t.1
          exact Nat.lt_of_lt_of_le ((hr.sin i).2 b j q) hE.agr.size
        · obtain ⟨i, hi, q⟩ := t.1
          have hz0 : ¬ Z b j := fun z => hr.sz i b j q z
          have hzl : ¬ US S (ar.dead ++ (lent ++ ar.lent)) b j := fun z => by
            refine US.apart hr (l := PA.ids ar.pa) (fun o ho h => ?_) b j t.1 z
            rcases List.mem_append.1 h with h | h
            · exact n0.2.2 o ho o h rfl
            · exact hla o h (List.mem_append.2 (.inl ho))
          rcases hZ3z b j z with z | ⟨z, _⟩
          · rcases hZA' b j z with z | z
            · exact hz0 z
            · exact hzl (US.le (fun o h => List.mem_append.2 (.inr h)) b j z)
          · rcases hzz b j z with z | z | z | z
            · exact hz0 z
            · exact hzl z
            · exact t.2 z
            · have := (hr.sin i).2 b j q; omega
        · obtain ⟨i, hi, q⟩ := t.1
          by_cases e : o = i
          · subst e; exact hSI o (List.mem_append.2 (.inl hi)) b j s
          · exact hr.apart o i e b j (hSA o b j s) q
      have hr2 := resM_ids ent.sg.res y.1 nid
      have obA : ∀ i, ob i = .non → updAll ob (killAll (ar.dead ++ PA.ids ar.pa) ++ u) i = .non := fun i hi => by
        rw [updAll_out _ _ _ fun x hx e => ?_, hi]
        rcases List.mem_append.1 hx with hx | hx
        · obtain ⟨o, ho, rfl⟩ := List.mem_map.1 hx
          refine hI o ?_ (by rw [show o = i from e]; exact hi)
          rcases List.mem_append.1 ho with h | h
          · exact List.mem_append.2 (.inr h)
          · exact List.mem_append.2 (.inl h)
        · exact hun x hx (by rw [e]; exact hi)
      obtain ⟨βC, DC, SC, hrC, gC, kC, kC'⟩ := outs_sound hr ent.sg.ps y.2 ar.pa _ _ T2 U β D SA _ z h5 hout k.l hbox (fun o d => ⟨d, rfl⟩) hrB ⟨CS.or_le (tfree T2 (.inr rfl)).f hUfree.f, fun b j t => t.elim ((tfree T2 (.inr rfl)).b b j) (hUfree.b b j), CS.or_apart (tfree T2 (.inr rfl)).z hUfree.z, fun o => CS.or_apart ((tfree T2 (.inr rfl)).s o) (hUfree.s o)⟩ (tU T2 (.inr rfl)) n0.1 (fun i hi _ => obA i hi)
      obtain ⟨βD, DD, SD, hrD, aD, gD⟩ := res_sound ent.sg.res y.1 nid rv T1 βC DC SC _ hres hrC ((tfree T1 (.inl rfl)).grew gC (CS.apart_or hE.t (tU T1 (.inl rfl)))) (fun x hx => by
        rw [updAll_out _ _ _ fun q hq e => ?_]
        · exact obA _ (h7 x hx)
        · rcases kC q hq with h | ⟨h, _⟩
          · exact ids_dom hr _ _ _ k.l _ h (by rw [e]; exact h7 x hx)
          · have := (hr2.2 x hx).2; omega)
      refine ⟨βD, DD, SD, Z3, ?_, by rw [hE.v]; exact resDV_rel _ _ aD⟩
      have e1 : updAll ob (killAll ar.dead ++ u ++ z.1 ++ (resM ent.sg.res y.1 nid).2.1) = updAll (updAll (updAll ob (killAll (ar.dead ++ PA.ids ar.pa) ++ u)) z.1) (resM ent.sg.res y.1 nid).2.1 := by
        rw [updAll_app, updAll_app]
        congr 1
        refine updAll_cover _ _ _ fun i hi => ?_
        rw [updAll_app, updAll_app]
        refine updAll_at _ _ _ i (kill_at _ _ _ _ fun h => ?_).symm
        obtain ⟨q, hq, e⟩ := kC' i h
        exact hi q hq e
      show RelAt X βD DD SD Z3 sl (updAll ob (killAll ar.dead ++ u ++ z.1 ++ (resM ent.sg.res y.1 nid).2.1)) outs a w'
      rw [e1]
      exact hrD
end
end Go.Dn
/- One operation, whatever it is. -/
set_option linter.unusedVariables false
namespace Go.Dn
theorem one_of {α β : Type} {f : α → β} {l : List α} {d : β} (h : l.map f = [d]) : ∃ x, l = [x] ∧ f x = d := by
  cases l with
  | nil => cases h
  | cons x l =>
    cases l with
    | nil => exact ⟨x, rfl, (List.cons.inj h).1⟩
    | cons y l => have := (List.cons.inj h).2; cases this
theorem two_of {α β : Type} {f : α → β} {l : List α} {d d' : β} (h : l.map f = [d, d']) : ∃ x y, l = [x, y] ∧ f x = d ∧ f y = d' := by
  cases l with
  | nil => cases h
  | cons x l =>
    obtain ⟨y, h1, h2⟩ := one_of (List.cons.inj h).2
    exact ⟨x, y, by rw [h1], (List.cons.inj h).1, h2⟩
section
variable {X : Cx} {β : Nat → Pl} {D : Nat → Prop} {S : Nat → CS} {Z : CS} {sl : Nat → DV} {ob : Nat → OB} {outs : List CV} {a : Act} {w : World}

theorem dr_cell_ok {d : DV} {v : Value} {c : CV} (h : DR (VR X β D Z w) d v) (hc : d.cell.ev ob = some c) (h1 : c ≠ .und) (h2 : c ≠ .skip) : VR X β D Z w c v := by
  rcases (dr_cell h hc).2 with e | ⟨e, _⟩ | h
  · exact absurd e h1
  · exact absurd e h2
  · exact h
theorem elems_dom (q : Q) (e : K) : ∀ (n : Nat) (cs : List CV) (g : Got (List e.T)), (elemsM q e n cs).ev ob = some g → ∀ o ∈ g.dead, ob o ≠ .non
  | 0, cs, g, h => by
    match cs with
    | [] => cases h; intro o ho; cases ho
    | _ :: _ => cases h
  | n + 1, cs, g, h => by
    simp only [elemsM] at h
    obtain ⟨x, h1, h2⟩ := ev_bind_some h
    obtain ⟨y, h3, h4⟩ := ev_bind_some h2
    cases h4
    intro o ho
    rcases List.mem_append.1 ho with ho | ho
    · exact dead_dom e q _ x h1 o ho
    · exact elems_dom q e n _ y h3 o ho
theorem eff_sound {E : Env} {k : Nat} (hE : TysOk X.P E) (hQ : EqsOk X.P E) (hF : FnsOk X.P E k) (hr : RelAt X β D S Z sl ob outs a w) {st : St} (hs : st.slot = sl) {o : Oper} {nid : Nat} {e : Eff} (he : (eff E k o nid st.eval).ev ob = some e) :
    Does X.P o a w (After X sl ob outs a e) := by
  have ev := hr.eval st hs
  have kd : ∀ {t : Nat} {κ : K}, (kindM E t).ev ob = some κ → TyOk X.P κ t := fun h => hE.1 _ _ (ev_ofO h)
  unfold eff at he
  cases hop : o.op with
  | move x => rw [hop] at he; cases he; exact op_move hr (.inl hop) (ev x)
  | assign x => rw [hop] at he; cases he; exact op_move hr (.inr hop) (ev x)
  | pick c x y =>
    rw [hop] at he
    simp only at he
    split at he
    · rename_i t ht
      have hc := ev c
      rw [ht] at hc
      cases t with
      | true => cases he; exact op_pick hr hop hc (ev x)
      | false => cases he; exact op_pick hr hop hc (ev y)
    · cases he
  | alloc t =>
    rw [hop] at he
    obtain ⟨κ, h1, h2⟩ := ev_bind_some he
    obtain ⟨h3, h4⟩ := ev_newM h2
    cases h4
    exact op_alloc hr hop (kd h1) nid h3
  | box t x =>
    rw [hop] at he
    simp only at he
    cases hpt : ptrTy E t with
    | true =>
      rw [hpt] at he
      obtain ⟨c, h1, h2⟩ := ev_bind_some he
      exact op_ptrBox hr hop (dr_cell_ok (ev x) h1 (fun e => by rw [e] at h2; cases h2) (fun e => by rw [e] at h2; cases h2)) h2
    | false =>
    rw [hpt] at he
    obtain ⟨κ, h1, h2⟩ := ev_bind_some he
    obtain ⟨cs, h3, h4⟩ := ev_bind_some h2
    cases hl : Nat.beq cs.length κ.n with
    | false => rw [hl] at h4; cases h4
    | true =>
      rw [hl] at h4
      obtain ⟨h5, h6⟩ := ev_newM h4
      cases h6
      exact op_box hr hop (dr_cells (ev x) h3).1 nid h5
  | build t ps =>
    rw [hop] at he
    obtain ⟨κ, h1, h2⟩ := ev_bind_some he
    cases hk : κ.agg with
    | false => rw [hk] at h2; cases h2
    | true =>
      rw [hk] at h2
      obtain ⟨cs, h3, h4⟩ := ev_bind_some h2
      cases h4
      exact op_build hr hs hop (kd h1) hk h3
  | buildSlice t n ps =>
    rw [hop] at he
    obtain ⟨h0, he⟩ := ev_newM he
    obtain ⟨κ, h1, h2⟩ := ev_bind_some he
    split at h2
    · rename_i el
      obtain ⟨cs, h3, h4⟩ := ev_bind_some h2
      obtain ⟨own, h5, h6⟩ := ev_bind_some h4
      obtain ⟨g, h7, h8⟩ := ev_bind_some h6
      cases hc : (nodupN g.dead && (apartN g.lent g.dead && Nat.ble (n * el.n) 16777216)) with
      | false => rw [hc] at h8; cases h8
      | true =>
        rw [hc] at h8
        simp only [Bool.and_eq_true] at hc
        obtain ⟨u, h9, h10⟩ := ev_bind_some h8
        cases h10
        refine op_buildSlice hr hs hop (kd h1) h0 h3 h7 hc.1 hc.2.1 (Nat.le_of_ble_eq_true hc.2.2) h9 fun h => ?_
        rcases List.mem_append.1 h with h | h
        · exact elems_dom _ _ _ _ _ h7 _ h h0
        · exact freeze_dom _ _ h9 _ h h0
    · cases h2
  | load t x =>
    rw [hop] at he
    simp only at he
    cases hpt : ptrTy E t with
    | true =>
      rw [hpt] at he
      obtain ⟨c, h1, h2⟩ := ev_bind_some he
      exact op_ptrLoad hr hE hop hpt (dr_cell_ok (ev x) h1 (fun e => by rw [e] at h2; cases h2) (fun e => by rw [e] at h2; cases h2)) h2
    | false =>
    rw [hpt] at he
    obtain ⟨κ, h1, h2⟩ := ev_bind_some he
    obtain ⟨c, h3, h4⟩ := ev_bind_some h2
    obtain ⟨cs, h5, h6⟩ := ev_bind_some h4
    cases h6
    exact op_load hr hop (kd h1) (dr_cell_ok (ev x) h3 (fun e => by rw [e] at h5; cases h5) (fun e => by rw [e] at h5; cases h5)) h5
  | store t x y =>
    rw [hop] at he
    obtain ⟨κ, h1, h2⟩ := ev_bind_some he
    obtain ⟨c, h3, h4⟩ := ev_bind_some h2
    obtain ⟨cs, h5, h6⟩ := ev_bind_some h4
    cases hl : Nat.beq cs.length κ.n with
    | false => rw [hl] at h6; cases h6
    | true =>
      rw [hl] at h6
      obtain ⟨u, h7, h8⟩ := ev_bind_some h6
      cases h8
      exact op_store hr hop (kd h1) (dr_cell_ok (ev x) h3 (fun e => by rw [e] at h7; cases h7) (fun e => by rw [e] at h7; cases h7)) (dr_cells (ev y) h5).1 (Nat.eq_of_beq_eq_true hl) h7
  | nilCheck x =>
    rw [hop] at he
    have hx := ev x
    have fin : ∀ c A, st.eval x = .v false [c] → (M.ret1 c).ev ob = some e → a.eval x = .pointer (some A) → Does X.P o a w (After X sl ob outs a e) := fun c A h1 h2 h3 => by
      rw [ev_ret1 h2]
      exact op_nilCheck hr hop h3 (h1 ▸ hx)
    simp only at he
    split at he
    · rename_i o' j h1
      rw [h1] at hx
      exact fin _ _ h1 he hx.2
    · rename_i o' i j h1
      rw [h1] at hx
      obtain ⟨_, _, _, A, _, hv⟩ := hx
      exact fin _ _ h1 he hv
    · rename_i e' y j h1
      rw [h1] at hx
      obtain ⟨b, off, us, hv, _⟩ := hx
      exact fin _ _ h1 he hv
    · rename_i h1
      rw [h1] at hx
      exact (hx : False).elim
    · cases he
  | binOp op t x y ty =>
    rw [hop] at he
    exact op_binM hr hE hQ hop (ev x) (ev y) he
  | unOp op t x =>
    rw [hop] at he
    exact op_unOp hr hop (ev x) he
  | convert src dst x =>
    rw [hop] at he
    obtain ⟨κ, h1, h2⟩ := ev_bind_some he
    split at h2
    · obtain ⟨κ', h3, h4⟩ := ev_bind_some h2
      split at h4
      · obtain ⟨y, h5, h6⟩ := ev_bind_some h4
        rw [ev_ret1 h6]
        exact op_conv_int hr hop (kd h1) (kd h3) (dr_int (ev x) h5)
      · cases h4
    · obtain ⟨κ', h3, h4⟩ := ev_bind_some h2
      split at h4
      · split at h4
        · rename_i s hx
          rw [ev_ret1 h4]
          have hv := ev x
          rw [hx] at hv
          exact op_conv_str hr hop (kd h1) (kd h3) hv
        · cases h4
      · split at h4
        · rename_i s hx
          obtain ⟨h5, h6⟩ := ev_br h4
          obtain ⟨h7, h8⟩ := ev_newM h6
          cases h8
          have hv := ev x
          rw [hx] at hv
          exact op_conv_bytes hr hop (kd h1) (kd h3) hv h5 nid h7
        · cases h4
      · cases h4
    · obtain ⟨κ', h3, h4⟩ := ev_bind_some h2
      split at h4
      · obtain ⟨c, h5, h6⟩ := ev_bind_some h4
        obtain ⟨y, h7, h8⟩ := ev_bind_some h6
        rw [ev_ret1 h8]
        exact op_conv_text hr hop (kd h1) (kd h3) (dr_cell_ok (ev x) h5 (fun e => by rw [e] at h7; cases h7) (fun e => by rw [e] at h7; cases h7)) h7
      · cases h4
    · cases h2
  | makeSlice t x y =>
    rw [hop] at he
    obtain ⟨κ, h1, h2⟩ := ev_bind_some he
    split at h2
    · obtain ⟨b, h3, h4⟩ := ev_bind_some h2
      obtain ⟨n, h5, h6⟩ := ev_bind_some h4
      obtain ⟨c, h7, h8⟩ := ev_bind_some h6
      obtain ⟨k1, h9⟩ := ev_br h8
      obtain ⟨k2, h10⟩ := ev_br h9
      obtain ⟨k3, h11⟩ := ev_br h10
      obtain ⟨k4, h12⟩ := ev_newM h11
      cases h12
      exact op_makeSlice hr hE hop (kd h1) (ev_ofO h3) (dr_int (ev x) h5) (dr_int (ev y) h7) (of_decide_eq_true k1) (of_decide_eq_true k2) k3 nid k4
    · cases h2
  | slice t x lo hi mx =>
    rw [hop] at he
    obtain ⟨κ, h1, h2⟩ := ev_bind_some he
    cases mx with
    | none =>
      obtain ⟨c, h3, h4⟩ := ev_bind_some h2
      exact op_slice2 hr hs hop (kd h1) (dr_cell_ok (ev x) h3 (fun e => by rw [e] at h4; obtain ⟨_, h, _⟩ := ev_bind_some h4; cases h) (fun e => by rw [e] at h4; obtain ⟨_, h, _⟩ := ev_bind_some h4; cases h)) h4
    | some m =>
      obtain ⟨c, h3, h4⟩ := ev_bind_some h2
      exact op_slice3 hr hs hop (kd h1) (dr_cell_ok (ev x) h3 (fun e => by rw [e] at h4; obtain ⟨_, h, _⟩ := ev_bind_some h4; cases h) (fun e => by rw [e] at h4; obtain ⟨_, h, _⟩ := ev_bind_some h4; cases h)) h4
  | fieldAddr t x i =>
    rw [hop] at he
    obtain ⟨κ, h1, h2⟩ := ev_bind_some he
    obtain ⟨c, h3, h4⟩ := ev_bind_some h2
    split at h4
    · rename_i f hf
      exact op_fieldAddr hr hop (kd h1) hf (dr_cell_ok (ev x) h3 (fun e => by rw [e] at h4; cases h4) (fun e => by rw [e] at h4; cases h4)) h4
    · cases h4
  | field t x i =>
    rw [hop] at he
    obtain ⟨κ, h1, h2⟩ := ev_bind_some he
    split at h2
    · rename_i cs hx
      split at h2
      · rename_i f hf
        obtain ⟨r, h3, h4⟩ := ev_bind_some h2
        cases h4
        have hv := ev x
        rw [hx] at hv
        exact op_field hr hop (kd h1) hf hv h3
      · cases h2
    · cases h2
  | indexAddr t x i =>
    rw [hop] at he
    obtain ⟨κ, h1, h2⟩ := ev_bind_some he
    split at h2
    · obtain ⟨c, h3, h4⟩ := ev_bind_some h2
      obtain ⟨y, h5, h6⟩ := ev_bind_some h4
      exact op_indexAddr hr hop (kd h1) (dr_cell_ok (ev x) h3 (fun e => by rw [e] at h6; cases h6) (fun e => by rw [e] at h6; cases h6)) (dr_int (ev i) h5) h6
    · cases h2
  | index t x i =>
    rw [hop] at he
    obtain ⟨κ, h1, h2⟩ := ev_bind_some he
    split at h2
    · split at h2
      · rename_i s hx
        obtain ⟨y, h5, h6⟩ := ev_bind_some h2
        have hv := ev x
        rw [hx] at hv
        exact op_index hr hop (kd h1) hv (dr_int (ev i) h5) h6
      · cases h2
    · cases h2
  | extract x i =>
    rw [hop] at he
    simp only at he
    split at he
    · rename_i ds hx
      split at he
      · rename_i b cs hi
        cases he
        have hv := ev x
        rw [hx] at hv
        exact op_extract hr hop hv hi
      · cases he
    · cases he
  | panic x => rw [hop] at he; cases he
  | makeInterface t x => rw [hop] at he; cases he
  | makeFunc f fs cs =>
    rw [hop] at he
    cases f with
    | func f =>
      simp only at he
      cases h0 : Nat.beq fs.size 0 with
      | false => rw [h0] at he; cases he
      | true =>
        rw [h0] at he
        obtain ⟨l, h1, h2⟩ := ev_bind_some he
        rw [ev_ret1 h2]
        exact op_makeFunc hr hs hop (Nat.eq_of_beq_eq_true h0) h1
    | _ => cases he
  | call c =>
    rw [hop] at he
    simp only at he
    split at he
    · rename_i b hb
      unfold builtinM at he
      have hargs : ∀ ds, c.args.toList.map st.eval = ds → All2 (DR (VR X β D Z w)) ds (c.args.toList.map a.eval) := fun ds h => h ▸ all2_map _ _ (fun x => ev x) _
      split at he
      · rename_i d hds
        obtain ⟨x, hx, e1⟩ := one_of hds
        subst e1
        split at he
        · rename_i t ts hts
          obtain ⟨κ, h1, h2⟩ := ev_bind_some he
          obtain ⟨y, h3, h4⟩ := ev_bind_some h2
          obtain ⟨n, h5, h6⟩ := ev_bind_some h4
          exact op_len hr hop hb hx hts (kd h1) (dr_cell_ok (ev x) h3 (fun e => by rw [e] at h5; cases h5) (fun e => by rw [e] at h5; cases h5)) h5 h6
        · cases he
      · rename_i hds
        obtain ⟨x, hx, e1⟩ := one_of hds
        have hv := ev x
        rw [e1] at hv
        split at he
        · rename_i t ts hts
          obtain ⟨κ, h1, h2⟩ := ev_bind_some he
          split at h2
          · rw [ev_ret1 h2]
            exact op_cap hr hop hb hx hts (kd h1) hv
          · cases h2
        · cases he
      · rename_i s x hds
        obtain ⟨xs, xx, hx, e1, e2⟩ := two_of hds
        subst e1
        subst e2
        split at he
        · rename_i t u hts
          obtain ⟨κ, h1, h2⟩ := ev_bind_some he
          split at h2
          · rename_i el
            obtain ⟨b', h3, h4⟩ := ev_bind_some h2
            obtain ⟨cs, h5, h6⟩ := ev_bind_some h4
            obtain ⟨κ', h7, h8⟩ := ev_bind_some h6
            have base : ∀ cx ef, (appendM el b' nid cs cx).ev ob = some ef → cs ≠ .und ∧ cs ≠ .skip := fun cx ef h => by
              obtain ⟨_, h⟩ := ev_newM h
              obtain ⟨_, h, _⟩ := ev_bind_some h
              refine ⟨fun e => ?_, fun e => ?_⟩ <;> (rw [e] at h; cases h)
            split at h8
            · split at h8
              · rename_i hxv
                obtain ⟨h9, h10⟩ := ev_br h8
                have hv := ev xx
                rw [hxv] at hv
                exact op_append hr hE hop hb hx hts (ev_ofO h3) (kd h1) (kd h7) (dr_cell_ok (ev xs) h5 (base _ _ h10).1 (base _ _ h10).2) (.inl ⟨_, _, _, rfl, of_decide_eq_true h9, hv, rfl⟩) h10
              · cases h8
            · rename_i hne
              obtain ⟨cx, h9, h10⟩ := ev_bind_some h8
              refine op_append hr hE hop hb hx hts (ev_ofO h3) (kd h1) (kd h7) (dr_cell_ok (ev xs) h5 (base _ _ h10).1 (base _ _ h10).2) (.inr ⟨fun k e => hne k e, dr_cell_ok (ev xx) h9 (fun e => ?_) (fun e => ?_)⟩) h10
              · rw [e] at h10
                obtain ⟨_, h⟩ := ev_newM h10
                obtain ⟨_, _, h⟩ := ev_bind_some h
                obtain ⟨_, h, _⟩ := ev_bind_some h
                cases h
              · rw [e] at h10
                obtain ⟨_, h⟩ := ev_newM h10
                obtain ⟨_, _, h⟩ := ev_bind_some h
                obtain ⟨_, h, _⟩ := ev_bind_some h
                cases h
          · cases h2
        · cases he
      · rename_i s x hds
        obtain ⟨xs, xx, hx, e1, e2⟩ := two_of hds
        subst e1
        subst e2
        split at he
        · rename_i t u hts
          obtain ⟨κ, h1, h2⟩ := ev_bind_some he
          split at h2
          · rename_i el
            obtain ⟨κ', h3, h4⟩ := ev_bind_some h2
            obtain ⟨_, h4⟩ := ev_eqK h4
            obtain ⟨cd, h5, h6⟩ := ev_bind_some h4
            obtain ⟨cx, h7, h8⟩ := ev_bind_some h6
            refine op_copy hr hop hb hx hts (kd h1) (dr_cell_ok (ev xs) h5 (fun e => ?_) (fun e => ?_)) (dr_cell_ok (ev xx) h7 (fun e => ?_) (fun e => ?_)) h8
            all_goals
              rw [e] at h8
              unfold copyM at h8
              cases hf : el.flat <;> rw [hf] at h8
              · cases h8
              · first
                  | (obtain ⟨_, h8, _⟩ := ev_bind_some h8; cases h8; done)
                  | (obtain ⟨_, _, h8⟩ := ev_bind_some h8; obtain ⟨_, h8, _⟩ := ev_bind_some h8; cases h8)
          · cases h2
        · cases he
      · rename_i k1 p k2 q hds
        obtain ⟨xs, xx, hx, e1, e2⟩ := two_of hds
        have hv1 := ev xs
        have hv2 := ev xx
        rw [e1] at hv1
        rw [e2] at hv2
        rw [ev_ret1 he]
        exact op_minmax hr hop hx hv1 hv2 false hb
      · rename_i k1 p k2 q hds
        obtain ⟨xs, xx, hx, e1, e2⟩ := two_of hds
        have hv1 := ev xs
        have hv2 := ev xx
        rw [e1] at hv1
        rw [e2] at hv2
        rw [ev_ret1 he]
        exact op_minmax hr hop hx hv1 hv2 true hb
      · cases he
    · rename_i f hb
      split at he
      · rename_i f' hx
        obtain ⟨ent, h1, h2⟩ := ev_bind_some he
        obtain ⟨ds, h3, h4⟩ := ev_bind_some h2
        have hv := ev f
        rw [hx] at hv
        exact op_call hr hF hs hop hb hv.1 h1 h3 h4
      · rename_i p r g hx
        obtain ⟨y, h1, h2⟩ := ev_bind_some he
        have hv := ev f
        rw [hx] at hv
        simp only [M.ev] at h2
        cases hz : g y with
        | none => rw [hz] at h2; cases h2
        | some z =>
          rw [hz] at h2
          cases h2
          exact op_fnv hr hs hop hb hv h1 hz
      · cases he
    · cases he
  | _ => rw [hop] at he; cases he
end
end Go.Dn
/- A list taken out of an owned row, and laid back. -/
set_option linter.unusedVariables false
namespace Go.Dn

theorem with_kind : ∀ {κ : K} {x : κ.T} {j : Nat} {e e2 : K} {l : List e.T} {l2 : List e2.T} {z : κ.T}, κ.at x j = some ⟨e, l⟩ → κ.with x j e2 l2 = some z → e2 = e
  | .sl k, x, 0, e, e2, l, l2, z, h, h2 => by
    simp only [K.at, Option.some.injEq] at h
    cases h
    simp only [K.with, K.castL] at h2
    split at h2
    · rename_i e3 _; exact e3
    · cases h2
  | .sl k, x, j + 1, e, e2, l, l2, z, h, h2 => by cases h
  | .pair a b, x, j, e, e2, l, l2, z, h, h2 => by
    simp only [K.at] at h
    simp only [K.with] at h2
    cases hb : Nat.ble a.n j with
    | true =>
      rw [hb] at h h2
      obtain ⟨y, h3, _⟩ := Option.bind_eq_some_iff.1 h2
      exact with_kind (κ := b) h h3
    | false =>
      rw [hb] at h h2
      obtain ⟨y, h3, _⟩ := Option.bind_eq_some_iff.1 h2
      exact with_kind (κ := a) h h3
  | .int _, _, _, _, _, _, _, _, h, _ => by cases h
  | .bool, _, _, _, _, _, _, _, h, _ => by cases h
  | .str, _, _, _, _, _, _, _, h, _ => by cases h
  | .unit, _, _, _, _, _, _, _, h, _ => by cases h

/-- What a list within gives back. -/
def Wand (Z : CS) (w : World) (S2 : CS) (m : Nat) (A : Option Addr) (c : Nat) (e : K) (R : World → CS → List e.T → CS → Prop) : Prop :=
  ∀ (w' : World) (Z' T : CS), Agr T w w' → T.apart Z → T.apart S2 → Z.le Z' → ∀ (l2 : List e.T) (S1 : CS), l2.length = m → S1.apart S2 → OwnSl w' e.n (HL (H Z' w' .dp e) l2) A m c S1 → R w' Z' l2 (fun b k => S1 b k ∨ S2 b k)

theorem H.takeOut {Z : CS} {w : World} : ∀ (κ : K) (x : κ.T) (vs : List Value) (S : CS) (j : Nat) (e : K) (l : List e.T), H Z w .dp κ x vs S → κ.at x j = some ⟨e, l⟩ →
    ∃ A c S1 S2, Sep S S1 S2 ∧ vs[j]? = some (.slice A l.length c) ∧ OwnSl w e.n (HL (H Z w .dp e) l) A l.length c S1 ∧ Wand Z w S2 l.length A c e fun w' Z' l2 S' => ∀ z, κ.with x j e l2 = some z → H Z' w' .dp κ z vs S'
  | .sl k, x, vs, S, 0, e, l, h, hat => by
    simp only [K.at, Option.some.injEq] at hat
    cases hat
    simp only [H] at h
    obtain ⟨A, c, rfl, h⟩ := h
    refine ⟨A, c, S, CS.no, ⟨CS.le.refl _, CS.no_le _, CS.apart_no _⟩, rfl, h, fun w' Z' T ha hz hs hZ l2 S1 hl hap ho z hw => ?_⟩
    simp only [K.with, K.castL] at hw
    split at hw
    · cases hw
      simp only [H]
      refine ⟨A, c, by rw [hl], ?_⟩
      rw [hl]
      exact ho.imp (fun b k s => .inl s) fun _ _ _ p => p
    · cases hw
  | .sl k, x, vs, S, j + 1, e, l, h, hat => by cases hat
  | .pair a b, x, vs, S, j, e, l, h, hat => by
    obtain ⟨u, us, Sa, Sb, rfl, h1, h2, hsep⟩ := h
    have hlen := H.len a _ x.1 u Sa h1
    simp only [K.at] at hat
    cases hb : Nat.ble a.n j with
    | true =>
      rw [hb] at hat
      obtain ⟨A, c, S1, S2, hs, hv, ho, hw⟩ := H.takeOut b x.2 us Sb (j - a.n) e l h2 hat
      have hle := Nat.le_of_ble_eq_true hb
      refine ⟨A, c, S1, fun b k => Sa b k ∨ S2 b k, ⟨hs.l.trans hsep.r, fun b k s => s.elim (hsep.l b k) fun s => hsep.r b k (hs.r b k s), fun b k s t => t.elim (fun t => hsep.d b k t (hs.l b k s)) fun t => hs.d b k s t⟩, ?_, ho, fun w' Z' T ha hz hap hZ l2 S1' hl hap2 ho2 z hz2 => ?_⟩
      · rw [List.getElem?_append_right (by omega), hlen]; exact hv
      · simp only [K.with, hb, cond_true] at hz2
        obtain ⟨y, h3, h4⟩ := Option.bind_eq_some_iff.1 hz2
        cases h4
        have h5 := hw w' Z' T ha hz (fun b k t s => hap b k t (.inr s)) hZ l2 S1' hl (fun b k s t => hap2 b k s (.inr t)) ho2 y h3
        refine ⟨u, us, Sa, _, rfl, H.more hZ _ _ _ _ _ (H.agr ha hz _ _ _ _ _ (fun b k t s => hap b k t (.inl s)) h1), h5, ⟨fun b k s => .inr (.inl s), fun b k s => s.elim .inl fun s => .inr (.inr s), fun b k s t => t.elim (fun t => hap2 b k t (.inl s)) fun t => hsep.d b k s (hs.r b k t)⟩⟩
    | false =>
      rw [hb] at hat
      obtain ⟨A, c, S1, S2, hs, hv, ho, hw⟩ := H.takeOut a x.1 u Sa j e l h1 hat
      have hlt : j < a.n := by
        rcases Nat.lt_or_ge j a.n with h | h
        · exact h
        · rw [Nat.ble_eq_true_of_le h] at hb; cases hb
      refine ⟨A, c, S1, fun b k => Sb b k ∨ S2 b k, ⟨hs.l.trans hsep.l, fun b k s => s.elim (hsep.r b k) fun s => hsep.l b k (hs.r b k s), fun b k s t => t.elim (fun t => hsep.d b k (hs.l b k s) t) fun t => hs.d b k s t⟩, ?_, ho, fun w' Z' T ha hz hap hZ l2 S1' hl hap2 ho2 z hz2 => ?_⟩
      · rw [List.getElem?_append_left (by omega)]; exact hv
      · simp only [K.with, hb, cond_false] at hz2
        obtain ⟨y, h3, h4⟩ := Option.bind_eq_some_iff.1 hz2
        cases h4
        have h5 := hw w' Z' T ha hz (fun b k t s => hap b k t (.inr s)) hZ l2 S1' hl (fun b k s t => hap2 b k s (.inr t)) ho2 y h3
        refine ⟨u, us, _, Sb, rfl, h5, H.more hZ _ _ _ _ _ (H.agr ha hz _ _ _ _ _ (fun b k t s => hap b k t (.inl s)) h2), ⟨fun b k s => s.elim .inl fun s => .inr (.inr s), fun b k s => .inr (.inl s), fun b k s t => s.elim (fun s => hap2 b k s (.inl t)) fun s => hsep.d b k (hs.r b k s) t⟩⟩
  | .int _, _, _, _, _, _, _, _, h => by cases h
  | .bool, _, _, _, _, _, _, _, h => by cases h
  | .str, _, _, _, _, _, _, _, h => by cases h
  | .unit, _, _, _, _, _, _, _, h => by cases h
theorem HL.takeOut {Z : CS} {w : World} {κ : K} {d : κ.T} {j : Nat} {e : K} {l : List e.T} : ∀ (xs : List κ.T) (vs : List Value) (S : CS) (i : Nat), HL (H Z w .dp κ) xs vs S → i < xs.length → κ.at (xs.getD i d) j = some ⟨e, l⟩ → j < κ.n →
    ∃ A c S1 S2, Sep S S1 S2 ∧ vs[i * κ.n + j]? = some (.slice A l.length c) ∧ OwnSl w e.n (HL (H Z w .dp e) l) A l.length c S1 ∧ Wand Z w S2 l.length A c e fun w' Z' l2 S' => ∀ z, κ.with (xs.getD i d) j e l2 = some z → HL (H Z' w' .dp κ) (xs.set i z) vs S'
  | [], _, _, _, _, hi, _, _ => by simp at hi
  | x :: xs, vs, S, 0, h, hi, hat, hj => by
    obtain ⟨u, us, Sa, Sb, rfl, h1, h2, hsep⟩ := h
    have hlen := H.len κ _ x u Sa h1
    obtain ⟨A, c, S1, S2, hs, hv, ho, hw⟩ := H.takeOut κ x u Sa j e l h1 hat
    refine ⟨A, c, S1, fun b k => Sb b k ∨ S2 b k, ⟨hs.l.trans hsep.l, fun b k s => s.elim (hsep.r b k) fun s => hsep.l b k (hs.r b k s), fun b k s t => t.elim (fun t => hsep.d b k (hs.l b k s) t) fun t => hs.d b k s t⟩, ?_, ho, fun w' Z' T ha hz hap hZ l2 S1' hl hap2 ho2 z hz2 => ?_⟩
    · rw [Nat.zero_mul, Nat.zero_add, List.getElem?_append_left (by omega)]; exact hv
    · have h5 := hw w' Z' T ha hz (fun b k t s => hap b k t (.inr s)) hZ l2 S1' hl (fun b k s t => hap2 b k s (.inr t)) ho2 z hz2
      refine ⟨u, us, _, Sb, rfl, h5, ?_, ⟨fun b k s => s.elim .inl fun s => .inr (.inr s), fun b k s => .inr (.inl s), fun b k s t => s.elim (fun s => hap2 b k s (.inl t)) fun s => hsep.d b k (hs.r b k s) t⟩⟩
      exact HL.imp _ _ _ (fun y v S3 hl3 hy => H.more hZ _ _ _ _ _ (H.agr ha hz _ _ _ _ _ (fun b k t s => hap b k t (.inl (hl3 b k s))) hy)) h2
  | x :: xs, vs, S, i + 1, h, hi, hat, hj => by
    obtain ⟨u, us, Sa, Sb, rfl, h1, h2, hsep⟩ := h
    have hlen := H.len κ _ x u Sa h1
    obtain ⟨A, c, S1, S2, hs, hv, ho, hw⟩ := HL.takeOut xs us Sb i h2 (by simpa using hi) hat hj
    refine ⟨A, c, S1, fun b k => Sa b k ∨ S2 b k, ⟨hs.l.trans hsep.r, fun b k s => s.elim (hsep.l b k) fun s => hsep.r b k (hs.r b k s), fun b k s t => t.elim (fun t => hsep.d b k t (hs.l b k s)) fun t => hs.d b k s t⟩, ?_, ho, fun w' Z' T ha hz hap hZ l2 S1' hl hap2 ho2 z hz2 => ?_⟩
    · rw [List.getElem?_append_right (by rw [hlen, Nat.add_mul]; omega), hlen, show (i + 1) * κ.n + j - κ.n = i * κ.n + j by rw [Nat.add_mul]; omega]; exact hv
    · have h5 := hw w' Z' T ha hz (fun b k t s => hap b k t (.inr s)) hZ l2 S1' hl (fun b k s t => hap2 b k s (.inr t)) ho2 z hz2
      exact ⟨u, us, Sa, _, rfl, H.more hZ _ _ _ _ _ (H.agr ha hz _ _ _ _ _ (fun b k t s => hap b k t (.inl s)) h1), h5, ⟨fun b k s => .inr (.inl s), fun b k s => s.elim .inl fun s => .inr (.inr s), fun b k s t => t.elim (fun t => hap2 b k t (.inl s)) fun t => hsep.d b k s (hs.r b k t)⟩⟩
theorem OwnSl.takeOut {Z : CS} {w : World} {κ : K} {d : κ.T} {j : Nat} {e : K} {l : List e.T} {xs : List κ.T} {A : Option Addr} {n c : Nat} {S : CS} {i : Nat} (h : OwnSl w κ.n (HL (H Z w .dp κ) xs) A n c S) (hn : xs.length = n) (hi : i < xs.length) (hat : κ.at (xs.getD i d) j = some ⟨e, l⟩) (hj : j < κ.n) :
    ∃ A' c' S1 S2 A0, Sep S S1 S2 ∧ A = some A0 ∧ w.cell? (A0.add (i * κ.n + j)) = some (.slice A' l.length c') ∧ OwnSl w e.n (HL (H Z w .dp e) l) A' l.length c' S1 ∧ Wand Z w S2 l.length A' c' e fun w' Z' l2 S' => ∀ z, κ.with (xs.getD i d) j e l2 = some z → OwnSl w' κ.n (HL (H Z' w' .dp κ) (xs.set i z)) A n c S' := by
  rcases h with ⟨h0, _⟩ | ⟨g, cur, ty, fr, Sx, rfl, hnc, hb, hc, hS, hx1, hx2, hP⟩
  · omega
  obtain ⟨A', c', S1, S2, hs, hv, ho, hw⟩ := HL.takeOut xs _ Sx i hP hi hat hj
  refine ⟨A', c', S1, fun b k => b = g ∨ S2 b k, ⟨g, 0, none⟩, ⟨hs.l.trans hx1, fun b k s => s.elim (fun e => e ▸ hS k) fun s => hx1 b k (hs.r b k s), fun b k s t => t.elim (fun e => hx2 k (by subst e; exact hs.l b k s)) fun t => hs.d b k s t⟩, rfl, ?_, ho, fun w' Z' T ha hz hap hZ l2 S1' hl hap2 ho2 z hz2 => ?_⟩
  · have hv' := hv
    rw [List.getElem?_take] at hv'
    split at hv'
    · have e1 : (⟨g, 0, none⟩ : Addr).add (i * κ.n + j) = ⟨g, i * κ.n + j, none⟩ := by
        simp [Addr.add]
        intro h1 h2
        rw [h1, h2]
      rw [e1, cell?_of hb.1]
      simpa using hv'
    · cases hv'
  · have h5 := hw w' Z' T ha hz (fun b k t s => hap b k t (.inr s)) hZ l2 S1' hl (fun b k s t => hap2 b k s (.inr t)) ho2 z hz2
    refine .inr ⟨g, cur, ty, fr, _, rfl, hnc, ⟨ha.block (fun k t => hap g k t (.inl rfl)) hb.1, hb.2⟩, hc, fun k => .inr (.inl rfl), fun b k s => s.elim .inl fun s => .inr (.inr s), fun k s => s.elim (fun s => hap2 g k s (.inl rfl)) fun s => hx2 k (hs.r g k s), h5⟩
theorem at_lt : ∀ {κ : K} {x : κ.T} {j : Nat} {y : (e : K) × List e.T}, κ.at x j = some y → j < κ.n
  | .sl k, x, 0, y, h => Nat.zero_lt_one
  | .sl k, x, j + 1, y, h => by cases h
  | .pair a b, x, j, y, h => by
    simp only [K.at] at h
    show j < a.n + b.n
    cases hb : Nat.ble a.n j with
    | true =>
      rw [hb] at h
      have h2 : j - a.n < b.n := at_lt (κ := b) h
      have := Nat.le_of_ble_eq_true hb
      omega
    | false =>
      rw [hb] at h
      have h2 : j < a.n := at_lt (κ := a) h
      omega
  | .int _, _, _, _, h => by cases h
  | .bool, _, _, _, h => by cases h
  | .str, _, _, _, h => by cases h
  | .unit, _, _, _, h => by cases h
theorem openArg_some {o : Oper} {ev : Operand → DV} {t : TypeId} {x : Nat} {i : Int} {j : Nat} (h : openArg o ev = some (t, x, i, j)) : ∃ a, o.op = .load t a ∧ ev a = .v false [.el x i j] := by
  unfold openArg at h
  split at h
  · rename_i t' a e
    split at h
    · rename_i e2; cases h; exact ⟨a, e, e2⟩
    · cases h
  · cases h
section
variable {X : Cx} {β : Nat → Pl} {D : Nat → Prop} {S : Nat → CS} {Z : CS} {sl : Nat → DV} {ob : Nat → OB} {outs : List CV} {a : Act} {w : World}
theorem open_sound (hr : RelAt X β D S Z sl ob outs a w) {st : St} (hs : st.slot = sl) {o : Oper} {t : TypeId} {x nid : Nat} {i : Int} {j : Nat} {e e2 : K} {l : List e.T} {l2 : List e2.T}
    (ha : openArg o st.eval = some (t, x, i, j)) (ht : TyOk X.P (.sl e2) t) (hx : ob x = .arr e true false l) (hat : e.at (l.getD i.toNat e.zero) j = some ⟨e2, l2⟩) (hn : ob nid = .non) :
    Does X.P o a w (After X sl ob outs a ⟨.v false [.arr nid], [(x, .hole e l i j nid), (nid, .arr e2 true false l2)], []⟩) := by
  obtain ⟨ad, hop, had⟩ := openArg_some ha
  have hv := hr.eval st hs ad
  rw [had] at hv
  have hv : VR X β D Z w (.el x i j) (a.eval ad) := hv
  obtain ⟨hD, hi0, hi1, A0, hA0, hv⟩ := hv
  have hob := hr.objs x
  rw [hx] at hob
  obtain ⟨hl, hz, how⟩ := hob
  have hne : nid ≠ x := fun h => by rw [h, hx] at hn; cases hn
  have hil : i.toNat < l.length := by omega
  obtain ⟨A', c', S1, S2, A1, hsep, hA1, hcell, hown, hwand⟩ := OwnSl.takeOut how hl hil hat (at_lt hat)
  rw [hA0] at hA1
  cases hA1
  have hload : (execOp a.eval o).run X.P w = .ok (.value (.slice A' l2.length c')) w := by
    unfold execOp; rw [hop]
    simp [Instr.loadAt, Instr.sureAddr, hv, loadVar, run_isAgg' ht, K.agg, hz, hcell]
  refine does_value hload ?_
  have hDn : ¬ D nid := fun d => hr.dom nid d hn
  let p : Pl := ⟨0, 0, A', l2.length, c', e2.n⟩
  have hβ : ∀ z, D z → upd β nid p z = β z := fun z d => upd_ne _ _ (fun e => hDn (e ▸ d))
  have hβx : upd β nid p x = β x := hβ x hD
  refine ⟨upd β nid p, fun z => D z ∨ z = nid, upd (upd S x S2) nid S1, Z, ?_, ?_⟩
  · refine hr.step (T := CS.no) (fun z d => ⟨.inl d, hβ z d⟩) (CS.le.refl _) (Agr.refl _ _) (fun _ _ t => t.elim) (fun _ _ t => t.elim) (fun z => ?_) (fun z d => ?_) (fun z z' e => ?_) (fun z => ?_) (fun z => ?_) hr.zin hr.zbd
    · show OR X _ _ _ _ z _ (upd (upd ob x _) nid _ z) ∨ (upd (upd ob x _) nid _ z = _ ∧ _)
      by_cases e1 : z = nid
      · subst e1
        rw [upd_same, upd_same]
        refine .inl ?_
        show _ ∧ _ ∧ _
        rw [upd_same]
        exact ⟨rfl, rfl, hown⟩
      · by_cases e2' : z = x
        · subst e2'
          rw [upd_ne _ _ e1, upd_same, upd_ne _ _ e1, upd_same]
          refine .inl ⟨by rw [hβx]; exact hl, by rw [hβx]; exact hz, hi0, by omega, .inr rfl, fun w' Z' T ha2 hz2 hs2 hZ2 e3 l3 S3 hl3 hs3 ho3 z3 hw3 => ?_⟩
          have := with_kind hat hw3
          subst this
          rw [upd_same] at hl3 ho3
          rw [hβx]
          exact hwand w' Z' T ha2 hz2 hs2 hZ2 l3 S3 hl3 hs3 ho3 z3 hw3
        · rw [upd_ne _ _ e1, upd_ne _ _ e2', upd_ne _ _ e1, upd_ne _ _ e2', upd_ne _ _ e1]
          exact .inr ⟨rfl, CS.le.refl _, fun _ _ t => t.elim, .inl rfl⟩
    · show upd (upd ob x _) nid _ z ≠ .non
      by_cases e1 : z = nid
      · subst e1; rw [upd_same]; simp
      · rw [upd_ne _ _ e1]
        by_cases e2' : z = x
        · subst e2'; rw [upd_same]; simp
        · rw [upd_ne _ _ e2']; exact hr.dom z (d.resolve_right e1)
    · have hle : ∀ z, z ≠ nid → (upd (upd S x S2) nid S1 z).le (S z) := fun z hz => by
        rw [upd_ne _ _ hz]
        by_cases e2' : z = x
        · subst e2'; rw [upd_same]; exact hsep.r
        · rw [upd_ne _ _ e2']; exact CS.le.refl _
      have hn1 : ∀ z, z ≠ nid → (S1).apart (upd (upd S x S2) nid S1 z) := fun z hz => by
        rw [upd_ne _ _ hz]
        by_cases e2' : z = x
        · subst e2'; rw [upd_same]; exact hsep.d
        · rw [upd_ne _ _ e2']; exact (hr.apart x z (fun h => e2' h.symm)).mono hsep.l (CS.le.refl _)
      by_cases e1 : z = nid
      · subst e1; rw [upd_same]; exact hn1 z' (fun h => e h.symm)
      · by_cases e2' : z' = nid
        · subst e2'; rw [upd_same (upd S x S2)]; exact (hn1 z e1).symm
        · exact (hr.apart z z' e).mono (hle z e1) (hle z' e2')
    · by_cases e1 : z = nid
      · subst e1; rw [upd_same]; exact (hr.sz x).mono hsep.l (CS.le.refl _)
      · rw [upd_ne _ _ e1]
        by_cases e2' : z = x
        · subst e2'; rw [upd_same]; exact (hr.sz z).mono hsep.r (CS.le.refl _)
        · rw [upd_ne _ _ e2']; exact hr.sz z
    · have hx' := hr.sin x
      by_cases e1 : z = nid
      · subst e1; rw [upd_same]; exact ⟨hsep.l.trans hx'.1, fun b k s => hx'.2 b k (hsep.l b k s)⟩
      · rw [upd_ne _ _ e1]
        by_cases e2' : z = x
        · subst e2'; rw [upd_same]; exact ⟨hsep.r.trans hx'.1, fun b k s => hx'.2 b k (hsep.r b k s)⟩
        · rw [upd_ne _ _ e2']; exact hr.sin z
  · exact (⟨.inr rfl, by rw [upd_same]⟩ : VR X (upd β nid p) (fun z => D z ∨ z = nid) Z w (.arr nid) (.slice A' l2.length c'))
theorem layBack_sound (hr : RelAt X β D S Z sl ob outs a w) {x n : Nat} {e e2 : K} {l : List e.T} {l2 : List e2.T} {i : Int} {j : Nat} {z : e.T} (hx : ob x = .hole e l i j n) (hn : ob n = .arr e2 true false l2) (hne : x ≠ n) (hw : e.with (l.getD i.toNat e.zero) j e2 l2 = some z) :
    ∃ S', RelAt X β D S' Z sl (upd (upd ob x (.arr e true false (l.set i.toNat z))) n .dead) outs a w := by
  have hox := hr.objs x
  rw [hx] at hox
  obtain ⟨h1, h2, h3, h4, h5, h6⟩ := hox
  have hon := hr.objs n
  rw [hn] at hon
  obtain ⟨k1, k2, k3⟩ := hon
  rw [k1.symm] at k3
  have hres := h6 w Z CS.no (Agr.refl _ _) (fun _ _ t => t.elim) (fun _ _ t => t.elim) (CS.le.refl _) e2 l2 (S n) k1 (hr.apart n x hne.symm) (by rw [← k1]; exact k3) z hw
  refine ⟨upd (upd S x (fun b k => S n b k ∨ S x b k)) n CS.no, hr.step (T := CS.no) (fun z d => ⟨d, rfl⟩) (CS.le.refl _) (Agr.refl _ _) (fun _ _ t => t.elim) (fun _ _ t => t.elim) (fun y => ?_) (fun y d => ?_) (fun y y' e => ?_) (fun y => ?_) (fun y => ?_) hr.zin hr.zbd⟩
  · by_cases e1 : y = n
    · subst e1; rw [upd_same, upd_same]; exact .inl trivial
    · by_cases e2' : y = x
      · subst e2'
        rw [upd_ne _ _ e1, upd_same, upd_ne _ _ e1, upd_same]
        exact .inl ⟨by rw [List.length_set]; exact h1, h2, hres⟩
      · rw [upd_ne _ _ e1, upd_ne _ _ e2', upd_ne _ _ e1, upd_ne _ _ e2']
        exact .inr ⟨rfl, CS.le.refl _, fun _ _ t => t.elim, .inl rfl⟩
  · by_cases e1 : y = n
    · subst e1; rw [upd_same]; simp
    · rw [upd_ne _ _ e1]
      by_cases e2' : y = x
      · subst e2'; rw [upd_same]; simp
      · rw [upd_ne _ _ e2']; exact hr.dom y d
  · have key : ∀ y y', y ≠ y' → y ≠ n → y' ≠ n → (upd S x (fun b k => S n b k ∨ S x b k) y).apart (upd S x (fun b k => S n b k ∨ S x b k) y') := fun y y' e g1 g2 => by
      by_cases e2' : y = x
      · subst e2'
        rw [upd_same, upd_ne _ _ (fun h => e h.symm)]
        exact fun b k s t => s.elim (fun s => hr.apart n y' (fun h => g2 h.symm) b k s t) fun s => hr.apart y y' e b k s t
      · rw [upd_ne _ _ e2']
        by_cases e3 : y' = x
        · subst e3
          rw [upd_same]
          exact fun b k s t => t.elim (fun t => hr.apart y n g1 b k s t) fun t => hr.apart y y' e b k s t
        · rw [upd_ne _ _ e3]; exact hr.apart y y' e
    by_cases e1 : y = n
    · subst e1; rw [upd_same]; exact fun _ _ s _ => s
    · by_cases e2' : y' = n
      · subst e2'; rw [upd_same (upd S x _)]; exact fun _ _ _ t => t
      · rw [upd_ne _ _ e1, upd_ne _ _ e2']; exact key y y' e e1 e2'
  · by_cases e1 : y = n
    · subst e1; rw [upd_same]; exact fun _ _ s _ => s
    · rw [upd_ne _ _ e1]
      by_cases e2' : y = x
      · subst e2'; rw [upd_same]; exact fun b k s t => s.elim (fun s => hr.sz n b k s t) fun s => hr.sz y b k s t
      · rw [upd_ne _ _ e2']; exact hr.sz y
  · by_cases e1 : y = n
    · subst e1; rw [upd_same]; exact ⟨CS.no_le _, fun _ _ s => s.elim⟩
    · rw [upd_ne _ _ e1]
      by_cases e2' : y = x
      · subst e2'; rw [upd_same]; exact ⟨fun b k s => s.elim ((hr.sin n).1 b k) ((hr.sin y).1 b k), fun b k s => s.elim ((hr.sin n).2 b k) ((hr.sin y).2 b k)⟩
      · rw [upd_ne _ _ e2']; exact hr.sin y
end
theorem close_sound {X : Cx} {ρ : Type} {o : Oper} {st : St} {B : St → Option ρ} {y : ρ} {a : Act} {w : World} (h : closeM o st B = some y) (hr : Rel X st a w) : ∃ st', Rel X st' a w ∧ B st' = some y := by
  unfold closeM at h
  split at h
  · split at h
    · exact ⟨st, hr, h⟩
    · rename_i x _
      split at h
      · rename_i e l i j n hx
        split at h
        · rename_i e2 l2 hn
          split at h
          · rename_i z hz
            cases hb : Nat.beq x n with
            | true => rw [hb] at h; cases h
            | false =>
              rw [hb] at h
              obtain ⟨β, D, S, Z, hra⟩ := hr
              have hne : x ≠ n := fun e => by subst e; rw [Nat.beq_refl] at hb; cases hb
              obtain ⟨S', hra'⟩ := layBack_sound hra hx hn hne hz
              refine ⟨_, ⟨β, D, S', Z, ?_⟩, h⟩
              have e1 : (layBack st x n e (l.set i.toNat z)).ob = updAll st.ob [(x, .arr e true false (l.set i.toNat z)), (n, .dead)] := look_putAll _ _ _
              rw [e1]
              exact hra'
          · cases h
        · cases h
      · cases h
  · exact ⟨st, hr, h⟩
end Go.Dn
/- Rows of which the first elements are owned throughout, the others read. -/
set_option linter.unusedVariables false
namespace Go.Dn

theorem flags_len {α : Type} : ∀ (m : Nat) (l : List α), (flags m l).length = l.length
  | m, [] => by cases m <;> rfl
  | 0, x :: l => by simp [flags, flags_len 0 l]
  | m + 1, x :: l => by simp [flags, flags_len m l]
theorem flags_get {α : Type} : ∀ (m : Nat) (l : List α) (i : Nat) (x : α), l[i]? = some x → (flags m l)[i]? = some (decide (i < m), x)
  | m, [], i, x, h => by simp at h
  | 0, y :: l, 0, x, h => by simpa [flags] using h
  | m + 1, y :: l, 0, x, h => by simpa [flags] using h
  | 0, y :: l, i + 1, x, h => by
    have := flags_get 0 l i x (by simpa using h)
    simpa [flags] using this
  | m + 1, y :: l, i + 1, x, h => by
    have := flags_get m l i x (by simpa using h)
    simpa [flags] using this
theorem flags_set {α : Type} : ∀ (m : Nat) (l : List α) (z : α), (flags m l).set m (true, z) = flags (m + 1) (l.set m z)
  | m, [], z => by cases m <;> simp [flags]
  | 0, y :: l, z => by simp [flags]
  | m + 1, y :: l, z => by simp [flags, flags_set m l z]
theorem HL.ofFlags {Z : CS} {w : World} {e : K} : ∀ (l : List e.T) (vs : List Value) (S : CS), HL (H Z w .rd e) l vs S → HL (HB Z w e) (flags 0 l) vs S
  | [], _, _, h => h
  | x :: l, vs, S, h => by
    obtain ⟨u, us, S1, S2, rfl, h1, h2, hs⟩ := h
    exact ⟨u, us, S1, S2, rfl, h1, HL.ofFlags l us S2 h2, hs⟩
theorem HL.allFlags {Z : CS} {w : World} {e : K} : ∀ (l : List e.T) (m : Nat) (vs : List Value) (S : CS), l.length ≤ m → HL (HB Z w e) (flags m l) vs S → HL (H Z w .dp e) l vs S
  | [], m, _, _, _, h => by cases m <;> exact h
  | x :: l, 0, vs, S, hm, h => by simp at hm
  | x :: l, m + 1, vs, S, hm, h => by
    obtain ⟨u, us, S1, S2, rfl, h1, h2, hs⟩ := h
    exact ⟨u, us, S1, S2, rfl, h1, HL.allFlags l m us S2 (by simpa using hm) h2, hs⟩
theorem HB.rlen {Z : CS} {w : World} {e : K} : ∀ (p : Bool × e.T) (u : List Value) (S : CS), HB Z w e p u S → u.length = e.n := fun p u S h => H.len e _ p.2 u S h
theorem with_H {Z Z' : CS} {w w' : World} : ∀ (κ : K) (x : κ.T) (j : Nat) (e3 : K) (l2 : List e3.T) (z : κ.T) (u : List Value) (S T : CS) (A : Option Addr) (c : Nat), κ.only j = true → H Z w .rd κ x u S → κ.with x j e3 l2 = some z →
    OwnSl w' e3.n (HL (H Z' w' .dp e3) l2) A l2.length c T → H Z' w' .dp κ z (u.set j (.slice A l2.length c)) T
  | .sl k, x, 0, e3, l2, z, u, S, T, A, c, _, h, hw, ho => by
    simp only [K.with, K.castL] at hw
    split at hw
    · rename_i e _
      subst e
      cases hw
      simp only [H] at h
      obtain ⟨A0, c0, rfl, _⟩ := h
      simp only [H]
      exact ⟨A, c, rfl, ho⟩
    · cases hw
  | .sl k, x, j + 1, e3, l2, z, u, S, T, A, c, h, _, _, _ => by cases h
  | .pair a b, x, j, e3, l2, z, u, S, T, A, c, honly, h, hw, ho => by
    obtain ⟨u1, u2, S1, S2, rfl, h1, h2, _⟩ := h
    have hl := H.len a _ x.1 u1 S1 h1
    simp only [K.only] at honly
    simp only [K.with] at hw
    cases hb : Nat.ble a.n j with
    | true =>
      rw [hb] at honly hw
      simp only [cond_true, Bool.and_eq_true] at honly
      obtain ⟨y, h3, h4⟩ := Option.bind_eq_some_iff.1 hw
      cases h4
      have hle := Nat.le_of_ble_eq_true hb
      have h5 := with_H b x.2 (j - a.n) e3 l2 y u2 S2 T A c honly.2 h2 h3 ho
      refine ⟨u1, _, CS.no, T, ?_, H.flat a _ _ x.1 u1 S1 _ honly.1 h1, h5, ⟨CS.no_le _, CS.le.refl _, fun _ _ s _ => s⟩⟩
      rw [List.set_append_right _ _ (by omega), hl]
    | false =>
      rw [hb] at honly hw
      simp only [cond_false, Bool.and_eq_true] at honly
      obtain ⟨y, h3, h4⟩ := Option.bind_eq_some_iff.1 hw
      cases h4
      have hlt : j < a.n := by
        rcases Nat.lt_or_ge j a.n with h | h
        · exact h
        · rw [Nat.ble_eq_true_of_le h] at hb; cases hb
      have h5 := with_H a x.1 j e3 l2 y u1 S1 T A c honly.1 h1 h3 ho
      refine ⟨_, u2, T, CS.no, ?_, h5, H.flat b _ _ x.2 u2 S2 _ honly.2 h2, ⟨CS.le.refl _, CS.no_le _, fun _ _ _ s => s⟩⟩
      rw [List.set_append_left _ _ (by omega)]
  | .int _, _, _, _, _, _, _, _, _, _, _, h, _, _, _ => by cases h
  | .bool, _, _, _, _, _, _, _, _, _, _, h, _, _, _ => by cases h
  | .str, _, _, _, _, _, _, _, _, _, _, h, _, _, _ => by cases h
  | .unit, _, _, _, _, _, _, _, _, _, _, h, _, _, _ => by cases h
theorem only_lt : ∀ {κ : K} {j : Nat}, κ.only j = true → j < κ.n
  | .sl _, 0, _ => Nat.zero_lt_one
  | .sl _, j + 1, h => by cases h
  | .pair a b, j, h => by
    show j < a.n + b.n
    simp only [K.only] at h
    cases hb : Nat.ble a.n j with
    | true =>
      rw [hb] at h
      simp only [cond_true, Bool.and_eq_true] at h
      have := only_lt h.2
      have := Nat.le_of_ble_eq_true hb
      omega
    | false =>
      rw [hb] at h
      simp only [cond_false, Bool.and_eq_true] at h
      have := only_lt h.1
      omega
  | .int _, _, h => by cases h
  | .bool, _, h => by cases h
  | .str, _, h => by cases h
  | .unit, _, h => by cases h

section
variable {X : Cx} {β : Nat → Pl} {D : Nat → Prop} {S : Nat → CS} {Z : CS} {sl : Nat → DV} {ob : Nat → OB} {outs : List CV} {a : Act} {w : World}
theorem par_index (hr : RelAt X β D S Z sl ob outs a w) {o : Oper} {t : TypeId} {x y : Operand} (hop : o.op = .indexAddr t x y) {e : K} (ht : TyOk X.P (.sl e) t) {r : Nat} {k : IntKind} {n : Int} {l : List e.T} {m : Int} (hd : VR X β D Z w (.arr r) (a.eval x)) (hy : a.eval y = .int k n)
    (ho : ob r = .par e l m) (hb : inB n l.length = true) : Does X.P o a w (After X sl ob outs a (.e2 (.v false [.el r n 0]) [])) := by
  obtain ⟨hD, hv⟩ := hd
  have hob := hr.objs r
  rw [ho] at hob
  obtain ⟨h1, h2, h3, h4⟩ := hob
  simp only [inB, Bool.and_eq_true, decide_eq_true_eq] at hb
  rcases h4 with ⟨h, _⟩ | ⟨g, cur, ty, fr, S1, e1, _⟩
  · omega
  rw [e1] at hv
  have run : (execOp a.eval o).run X.P w = .ok (.value (.pointer (some ((⟨g, 0, none⟩ : Addr).add (n.toNat * e.n))))) w := by
    unfold execOp; rw [hop]
    simp [hv, hy, run_indexAt' ht (⟨g, 0, none⟩ : Addr) (β r).n (β r).c k n hb.1 (by omega) w]
  refine does_value run (after_one (c := .el r n 0) hr rfl ?_ (by simp))
  exact ⟨hD, hb.1, by omega, _, e1, by rw [h2, Nat.add_zero]⟩
theorem par_load (hr : RelAt X β D S Z sl ob outs a w) {o : Oper} {t : TypeId} {x : Operand} (hop : o.op = .load t x) {κ : K} (ht : TyOk X.P κ t) {e : K} {r j : Nat} {i m : Int} {l : List e.T} (hd : VR X β D Z w (.el r i j) (a.eval x)) (ho : ob r = .par e l m) (hmi : m ≤ i)
    (hc : (((e.cvs (l.getD i.toNat e.zero)).drop j).take κ.n).length = κ.n) : Does X.P o a w (After X sl ob outs a (.e2 (.v κ.agg (((e.cvs (l.getD i.toNat e.zero)).drop j).take κ.n)) [])) := by
  obtain ⟨hD, h0, h1, A, hA, hv⟩ := hd
  have hob := hr.objs r
  rw [ho] at hob
  obtain ⟨g1, g2, g3, g4⟩ := hob
  rcases g4 with ⟨h, _⟩ | ⟨g, cur, ty, fr, S1, e1, hn, hb, hcs, hS, k1, k2, k3⟩
  · omega
  rw [e1] at hA
  cases hA
  have hx : l[i.toNat]? = some (l.getD i.toNat e.zero) := by
    have : i.toNat < l.length := by omega
    simp [List.getD_eq_getElem?_getD, this]
  have hf := flags_get m.toNat l i.toNat _ hx
  rw [decide_eq_false (by omega)] at hf
  obtain ⟨u, S2, h4, h5, h6⟩ := HL.get HB.rlen _ _ _ k3 i.toNat _ hf
  have h4 : H Z w .rd e (l.getD i.toNat e.zero) u S2 := h4
  have hul := H.len _ _ _ _ _ h4
  have hcell : ∀ (q : Nat) v, u[q]? = some v → w.cell? ⟨g, i.toNat * e.n + q, none⟩ = some v := fun q v hq => by
    have hq' : q < e.n := by rw [← hul]; exact (List.getElem?_eq_some_iff.1 hq).1
    rw [← h6 q hq', take_get] at hq
    split at hq
    · rw [cell?_of hb.1]; simpa using hq
    · cases hq
  have hpart : (takeN κ.n ((e.cvs (l.getD i.toNat e.zero)).drop j)).ev ob = some (((e.cvs (l.getD i.toNat e.zero)).drop j).take κ.n) := by
    unfold takeN
    rw [hc, Nat.beq_refl]
    rfl
  obtain ⟨h10, us', _, h11, h12, h13⟩ := part_sound hpart (cvs_rd (X := X) (β := β) (D := D) e .rd (.inl rfl) _ _ _ h4) (b := g) (off := i.toNat * e.n) hcell
  exact op_load_of hr hop ht ⟨h10, us', h11, h12, g, i.toNat * e.n + j, by rw [hv, addr_add, g2, Nat.zero_add], h13⟩
theorem par_store (hr : RelAt X β D S Z sl ob outs a w) {o : Oper} {t : TypeId} {x y : Operand} (hop : o.op = .store t x y) {et : K} (ht : TyOk X.P (.sl et) t) {e e3 : K} {r n j : Nat} {i m : Int} {l : List e.T} {l2 : List e3.T} {d : Bool} {z : e.T} (hd : VR X β D Z w (.el r i j) (a.eval x)) (hd2 : VR X β D Z w (.arr n) (a.eval y))
    (ho : ob r = .par e l m) (hn : ob n = .arr e3 d false l2) (hdf : (d || e3.flat) = true) (honly : e.only j = true) (hne : r ≠ n) (hw : e.with (l.getD i.toNat e.zero) j e3 l2 = some z) (him : i = m) :
    Does X.P o a w (After X sl ob outs a ⟨.v false [.und], [(n, .dead), (r, .par e (l.set i.toNat z) (m + 1))], []⟩) := by
  obtain ⟨hD, h0, h1, A, hA, hv⟩ := hd
  obtain ⟨hDn, hv2⟩ := hd2
  have hob := hr.objs r
  rw [ho] at hob
  obtain ⟨g1, g2, g3, g4⟩ := hob
  have hon := hr.objs n
  rw [hn] at hon
  obtain ⟨q1, q2, q3⟩ := hon
  have q3 := ow_of (q := .dp) hdf q3
  rcases g4 with ⟨h, _⟩ | ⟨g, cur, ty, fr, S1, e1, hnc, hb, hcs, hS, k1, k2, k3⟩
  · omega
  rw [e1] at hA
  cases hA
  have hin : i.toNat < l.length := by omega
  have hx : l[i.toNat]? = some (l.getD i.toNat e.zero) := by simp [List.getD_eq_getElem?_getD, hin]
  have hf := flags_get m.toNat l i.toNat _ hx
  rw [decide_eq_false (by omega)] at hf
  obtain ⟨pre, uu, post, S2, S3, h4, h5, h6, h7, h8⟩ := HL.focus HB.rlen _ _ _ k3 i.toNat _ hf
  have h6 : H Z w .rd e (l.getD i.toNat e.zero) uu S2 := h6
  have hul := H.len _ _ _ _ _ h6
  have hj := only_lt honly
  have hmul := Nat.mul_le_mul_right e.n hnc
  have hlen : pre.length + uu.length + post.length = (β r).n * e.n := by
    have := congrArg List.length h4
    simp at this
    omega
  have hlo : (⟨g, 0, none⟩ : Addr).add (i.toNat * (β r).z + j) = ⟨g, i.toNat * e.n + j, none⟩ := by rw [addr_add, g2, Nat.zero_add]
  have hlt : i.toNat * e.n + j < cur.size := by omega
  have hpt : a.eval x = .pointer (some ⟨g, i.toNat * e.n + j, none⟩) := by rw [hv, hlo]
  have hwr : ∀ q, q < 1 → ∃ v, Wr w g (i.toNat * e.n + j + q) v := fun q hq => by
    obtain rfl : q = 0 := by omega
    refine ⟨cur[i.toNat * e.n + j], by rw [Nat.add_zero, cell?_of hb.1]; simp [hlt], ?_⟩
    simp only [World.frozen?, hb.1]
    rcases hb.2 with h | h <;> simp <;> omega
  let v2 : Value := .slice (β n).A (β n).n (β n).c
  have hcl : (a.eval y).cells.toList = [v2] := by rw [hv2]; rfl
  have hrun : (execOp a.eval o).run X.P w = .ok .skip (w.setCells g (i.toNat * e.n + j) [v2]) := by
    have := run_storeVar' (P := X.P) (w := w) ht (b := g) (o := i.toNat * e.n + j) (v := a.eval y) hcl (by rfl) (fun u hu => by rw [List.mem_singleton.1 hu]; rfl) hwr
    unfold execOp; rw [hop]
    simp [Instr.storeAt, Instr.sureAddr, hpt, this]
  refine does_skip hrun ?_
  have ha := Agr.setCells g [v2] (i.toNat * e.n + j) w
  have hT : CS.le (fun b' k => b' = g ∧ i.toNat * e.n + j ≤ k ∧ k < i.toNat * e.n + j + [v2].length) (S r) := fun b' k t => t.1 ▸ hS k
  have hk := hr.kill [n]
  have hrn : r ∉ [n] := fun h => hne (List.mem_singleton.1 h)
  have hso : Sno S [n] r = S r := Sno_out hrn
  have hap := hr.apart r n hne
  refine ⟨β, D, upd (Sno S [n]) r ((S r).or (S n)), Z, ?_, trivial⟩
  refine hk.set2 r (.par e (l.set i.toNat z) (m + 1)) (by simp) _ ((S r).or (S n)) Z (by rw [hso]; exact hT) ha (CS.le.refl _) (fun i' _ => hk.sz i') (fun i' hi' => ?_) (CS.or_apart (hr.sz r) (hr.sz n)) (CS.or_le (hr.sin r).1 (hr.sin n).1) (Bd.mono (fun b k s => s.elim ((hr.sin r).2 b k) ((hr.sin n).2 b k)) ha.size) hr.zin (Bd.mono hr.zbd ha.size) ?_
  · rintro b k (s | s) s2
    · exact hr.apart r i' (fun e => hi' e.symm) b k s (Sno_le _ _ _ _ _ s2)
    · by_cases e2 : i' = n
      · subst e2; rw [Sno_in (.head _)] at s2; exact s2
      · exact hr.apart n i' (fun e => e2 e.symm) b k s (Sno_le _ _ _ _ _ s2)
  · refine ⟨by simp [g1], g2, by omega, .inr ?_⟩
    obtain ⟨cur', m1, m2⟩ := heap_setCells g [v2] (i.toNat * e.n + j) w cur ty fr hb.1 (by show _ + 1 ≤ _; omega)
    have hsz : cur'.size = cur.size := by
      have := congrArg List.length m2
      simp at this; omega
    have hng : ∀ k, ¬ S n g k := fun k s => hap g k (hS k) s
    refine ⟨g, cur', ty, fr, (S n).or S3, e1, hnc, ⟨m1, hb.2⟩, by rw [hsz]; exact hcs, fun k => .inl (hS k), CS.or_le (CS.le_r _ _) ((h7.r.trans k1).trans (CS.le_l _ _)), fun k t => t.elim (hng k) fun t => k2 k (h7.r g k t), ?_⟩
    have hTZ : CS.apart (fun b' k => b' = g ∧ i.toNat * e.n + j ≤ k ∧ k < i.toNat * e.n + j + [v2].length) Z := fun b k t z => hr.sz r b k (hT b k t) z
    have q4 : OwnSl (w.setCells g (i.toNat * e.n + j) [v2]) e3.n (HL (H Z (w.setCells g (i.toNat * e.n + j) [v2]) .dp e3) l2) (β n).A l2.length (β n).c (S n) := by
      have := OwnSl.agr ha hTZ (fun b k t s => hap b k (hT b k t) s) q3
      rw [q1]; exact this
    have hz := with_H (w' := w.setCells g (i.toNat * e.n + j) [v2]) (Z' := Z) e _ j e3 l2 z uu S2 (S n) _ _ honly h6 hw q4
    have hres := h8 (HB Z (w.setCells g (i.toNat * e.n + j) [v2]) e) (fun y v S5 hl hy => H.agr ha hTZ _ _ _ _ _ (fun b k t s => k2 k (t.1 ▸ hl b k s)) hy) (true, z) _ (S n) ((S n).or S3) hz ⟨CS.le_l _ _, CS.le_r _ _, fun b k t s => hap b k (k1 b k (h7.r b k s)) t⟩
    have him2 : i.toNat = m.toNat := by rw [him]
    have hfl : (flags m.toNat l).set i.toNat (true, z) = flags (m + 1).toNat (l.set i.toNat z) := by
      rw [him2, flags_set, show (m + 1).toNat = m.toNat + 1 by omega]
    rw [hfl] at hres
    rw [m2]
    have h13 := take_mid cur.toList pre uu post [v2] ((β r).n * e.n) j h4 (by simp; omega) (by show j + 1 ≤ _; omega)
    rw [h5] at h13
    rw [h13]
    have hset : uu.set j (.slice (β n).A l2.length (β n).c) = uu.take j ++ [v2] ++ uu.drop (j + [v2].length) := by
      rw [q1]
      rw [List.set_eq_take_append_cons_drop, if_pos (by omega)]
      simp [v2]
    rw [hset] at hres
    exact hres
end
end Go.Dn
