/- That both nodes of a pair have for sure what is sealed, the program's SealedRight and the reference's SealedRight tell alike, whatever pair there is. -/
import Derived.Orders
import Derived.Deep.Slices
import Derived.Carry
import Derived.ProofKit
import Derived.OpenShut
import Derived.IntWalk
import Derived.Test.YtliaeahjdenlfaaGreatYtlSR20
import Derived.Test.YtliaeahjdenlfaaGreatYtlSR21
/- Regions whose operations run in order. -/
set_option linter.unusedVariables false
namespace Go.Dn

/-- What a guard says; none: it says nothing. -/
def wantF (ops : List Oper) (g : Option (Nat × Bool)) (sl : Nat → DV) : Option Bool :=
  match g with
  | none => some true
  | some (j, want) => match dstOf ops j with
    | none => none
    | some t => match sl t with
      | .v false [.bool b] => some (b == want)
      | .v false [.skip] => some false
      | _ => none
theorem slot_same (st : St) (t : Nat) (d : DV) (h : st.slot t = d) : (st.setSlot (some t) d).slot = st.slot := by
  rw [slot_setSlot]
  funext u
  show upd st.slot t d u = _
  by_cases e : u = t
  · subst e; rw [upd_same, h]
  · rw [upd_ne _ _ e]
theorem guardM_some {ρ : Type} {ops : List Oper} {g : Option (Nat × Bool)} {st : St} {A B : St → Option ρ} {y : ρ} (h : guardM ops g st A B = some y) :
    ∃ st', st'.slot = st.slot ∧ st'.ob = st.ob ∧ st'.outs = st.outs ∧ ((wantF ops g st.slot = some true ∧ A st' = some y) ∨ (wantF ops g st.slot = some false ∧ B st' = some y)) := by
  unfold guardM at h
  split at h
  · exact ⟨st, rfl, rfl, rfl, .inl ⟨rfl, h⟩⟩
  · rename_i j want
    split at h
    · cases h
    · rename_i t ht
      split at h
      · rename_i b hb
        cases b with
        | true =>
          cases want with
          | true => exact ⟨_, slot_same st t _ hb, rfl, rfl, .inl ⟨by simp [wantF, ht, hb], h⟩⟩
          | false => exact ⟨_, slot_same st t _ hb, rfl, rfl, .inr ⟨by simp [wantF, ht, hb], h⟩⟩
        | false =>
          cases want with
          | true => exact ⟨_, slot_same st t _ hb, rfl, rfl, .inr ⟨by simp [wantF, ht, hb], h⟩⟩
          | false => exact ⟨_, slot_same st t _ hb, rfl, rfl, .inl ⟨by simp [wantF, ht, hb], h⟩⟩
      · rename_i hb
        exact ⟨st, rfl, rfl, rfl, .inr ⟨by simp [wantF, ht, hb], h⟩⟩
      · cases h

section
variable {X : Cx} {β : Nat → Pl} {D : Nat → Prop} {S : Nat → CS} {Z : CS} {sl : Nat → DV} {ob : Nat → OB} {outs : List CV} {a : Act} {w : World}
theorem wanted_of (hr : RelAt X β D S Z sl ob outs a w) {ops : Array Oper} {o : Oper} {b : Bool} (h : wantF ops.toList o.guard sl = some b) : Region.wanted o (yielded ops a.tmps) = b := by
  unfold wantF at h
  unfold Region.wanted
  split at h
  · rename_i hg
    rw [hg]; exact Option.some.inj h
  · rename_i j want hg
    rw [hg]
    simp only
    split at h
    · cases h
    · rename_i t ht
      have ht' : (ops[j]?).bind (·.dst) = some t := by
        rw [← Array.getElem?_toList]; exact ht
      have hs := hr.slots t
      split at h
      · rename_i v hv
        rw [hv] at hs
        have hs : a.tmps.getD t undef = .bool v := hs
        have : a.tmps[t]? = some (.bool v) := by
          rw [Array.getD_eq_getD_getElem?] at hs
          cases e : a.tmps[t]? with
          | none => rw [e] at hs; cases hs
          | some x => rw [e] at hs; simp at hs; rw [hs]
        simp only [yielded, ht', Option.bind_some, this]
        rw [← Option.some.inj h]
        cases v <;> cases want <;> rfl
      · rename_i hv
        rw [hv] at hs
        have hs : a.tmps.getD t undef = undef := hs
        have : yielded ops a.tmps j = none := by
          simp only [yielded, ht', Option.bind_some]
          rw [Array.getD_eq_getD_getElem?] at hs
          cases e : a.tmps[t]? with
          | none => rfl
          | some x => rw [e] at hs; simp at hs; rw [hs]; rfl
        rw [this, ← Option.some.inj h]; rfl
      · cases h
theorem VR.fresh (l : List Nat) {c : CV} {v : Value} (h : VR X β D Z w c v) : c.fresh l = c := by
  cases c <;> first | rfl | exact (h : False).elim
theorem all2_fresh (l : List Nat) : ∀ (cs : List CV) (us : List Value), All2 (VR X β D Z w) cs us → cs.map (CV.fresh l) = cs
  | [], _, _ => rfl
  | c :: cs, [], h => (h : False).elim
  | c :: cs, u :: us, ⟨h1, h2⟩ => by rw [List.map_cons, h1.fresh, all2_fresh l cs us h2]
theorem dr1_fresh (l : List Nat) {b : Bool} {cs : List CV} {v : Value} (h : DR1 (VR X β D Z w) b cs v) : cs.map (CV.fresh l) = cs := by
  cases b with
  | true => obtain ⟨us, _, h⟩ := h; exact all2_fresh l cs _ h
  | false =>
    match cs, h with
    | [], _ => rfl
    | [c], h => cases c <;> first | rfl | exact (h : False).elim
    | _ :: _ :: _, h => simp [DR1] at h
theorem dr_fresh (l : List Nat) {d : DV} {v : Value} (h : DR (VR X β D Z w) d v) : d.fresh l = d := by
  cases d with
  | v b cs => show DV.v b _ = _; rw [dr1_fresh l h]
  | tup ds =>
    obtain ⟨us, _, h⟩ := h
    show DV.tup _ = _
    congr 1
    have : ∀ (ds : List (Bool × List CV)) (us : List Value), All2 (fun d u => DR1 (VR X β D Z w) d.1 d.2 u) ds us → ds.map (fun x => (x.1, x.2.map (CV.fresh l))) = ds := by
      intro ds
      induction ds with
      | nil => intro _ _; rfl
      | cons d ds ih =>
        intro us h
        match us, h with
        | [], h => exact (h : False).elim
        | u :: us, ⟨h1, h2⟩ => rw [List.map_cons, dr1_fresh l h1, ih us h2]
    exact this ds _ h
theorem or_fresh (l : List Nat) {o : Nat} {T : CS} {b : OB} (h : OR X β D Z w o T b) : b.fresh l = b := by
  cases b with
  | box cs =>
    show OB.box _ = _
    congr 1
    refine List.ext_getElem? fun i => ?_
    rw [List.getElem?_map]
    cases e : cs[i]? with
    | none => rfl
    | some c =>
      obtain ⟨_, v, _, hv⟩ := h i c e
      rw [Option.map_some, hv.fresh]
  | _ => rfl
theorem look_map {α : Type} (d : α) (f : α → α) (hd : f d = d) : ∀ (l : List (Nat × α)) (i : Nat), look d (l.map fun x => (x.1, f x.2)) i = f (look d l i)
  | [], i => hd.symm
  | (j, x) :: r, i => by
    simp only [List.map_cons, look]
    cases e : Nat.beq j i with
    | true => rfl
    | false => exact look_map d f hd r i
end

theorem Rel.fresh {X : Cx} {st : St} {a : Act} {w : World} (h : Rel X st a w) (l : List Nat) : Rel X (st.fresh l) a w := by
  obtain ⟨β, D, S, Z, h⟩ := h
  refine ⟨β, D, S, Z, ?_⟩
  cases l with
  | nil => exact h
  | cons x l =>
    have e1 : (st.fresh (x :: l)).slot = st.slot := by
      funext t
      show look _ (st.slots.map _) t = _
      rw [look_map _ (DV.fresh (x :: l)) rfl]
      exact dr_fresh _ (h.slots t)
    have e2 : (st.fresh (x :: l)).ob = st.ob := by
      funext t
      show look _ (st.objs.map _) t = _
      rw [look_map _ (OB.fresh (x :: l)) rfl]
      exact or_fresh _ (h.objs t)
    rw [e1, e2]
    exact h
theorem Rel.congr {X : Cx} {st st' : St} {a : Act} {w : World} (h : Rel X st a w) (h1 : st'.slot = st.slot) (h2 : st'.ob = st.ob) (h3 : st'.outs = st.outs) : Rel X st' a w := by
  obtain ⟨β, D, S, Z, h⟩ := h
  exact ⟨β, D, S, Z, by rw [h1, h2, h3]; exact h⟩
theorem Rel.slotD {X : Cx} {st : St} {a : Act} {w : World} {β : Nat → Pl} {D : Nat → Prop} {S : Nat → CS} {Z : CS} (h : RelAt X β D S Z st.slot st.ob st.outs a w) {dst : Option Nat} {d : DV} {v : Value} (hd : ∀ t, dst = some t → t < X.n) (hv : DR (VR X β D Z w) d v) : Rel X (st.setSlot dst d) (a.put dst v) w :=
  ⟨β, D, S, Z, by rw [slot_setSlot, ob_setSlot, outs_setSlot]; exact h.slot hd hv⟩
theorem Rel.after {X : Cx} {st : St} {a : Act} {w : World} {e : Eff} {v : Value} {dst : Option Nat} (hd : ∀ t, dst = some t → t < X.n) (h : After X st.slot st.ob st.outs a e v w) : Rel X (st.after dst e) (a.put dst v) w := by
  obtain ⟨β, D, S, Z, h1, h2⟩ := h
  have e1 : ({ st with objs := putAll st.objs e.upd } : St).ob = updAll st.ob e.upd := look_putAll _ _ _
  have h3 : Rel X ({ st with objs := putAll st.objs e.upd } : St) a w := ⟨β, D, S, Z, by rw [e1]; exact h1⟩
  -- the slot is set behind the refreshing
  have h4 : Rel X (({ st with objs := putAll st.objs e.upd } : St).setSlot dst e.res) (a.put dst v) w := Rel.slotD (by rw [e1]; exact h1) hd h2
  refine Rel.congr h4 ?_ ?_ ?_
  · show ((St.fresh _ _).setSlot dst e.res).slot = _
    rw [slot_setSlot, slot_setSlot]
    congr 1
    cases hl : e.stale with
    | nil => rfl
    | cons x l =>
      funext t
      show look _ (st.slots.map _) t = _
      rw [look_map _ (DV.fresh (x :: l)) rfl]
      exact dr_fresh _ (h1.slots t)
  · show ((St.fresh _ _).setSlot dst e.res).ob = _
    rw [ob_setSlot, ob_setSlot]
    cases hl : e.stale with
    | nil => rfl
    | cons x l =>
      funext t
      show look _ ((putAll st.objs e.upd).map _) t = _
      rw [look_map _ (OB.fresh (x :: l)) rfl]
      have := h1.objs t
      rw [← e1] at this
      exact or_fresh _ this
  · show ((St.fresh _ _).setSlot dst e.res).outs = _
    rw [outs_setSlot, outs_setSlot]
    cases e.stale <;> rfl

/-- What a function's code stands on. -/
structure EnvOk (P : Program) (E : Env) (k : Nat) : Prop where
  ty : TysOk P E
  eq : EqsOk P E
  fn : FnsOk P E k
theorem agree_some {ρ : Type} {a b : Option ρ} {y : ρ} (h : agree a b = some y) : a = some y ∧ b = some y := by
  unfold agree at h
  split at h
  · rename_i e; exact ⟨h, by rw [← e]; exact h⟩
  · cases h
theorem nilArg_some {o : Oper} {ev : Operand → DV} {ng : Bool} {t : TypeId} {c : CV} (h : nilArg o ev = some (ng, t, c)) :
    ∃ x ty, o.op = .binOp (bif ng then .neq else .eql) t x (.const (.slice none 0 0)) ty ∧ ev x = .v false [c] := by
  unfold nilArg at h
  split at h
  · rename_i t' x ty e
    split at h
    · rename_i c' e2; cases h; exact ⟨x, ty, e, e2⟩
    · cases h
  · rename_i t' x ty e
    split at h
    · rename_i c' e2; cases h; exact ⟨x, ty, e, e2⟩
    · cases h
  · cases h
theorem run_nil {P : Program} (w : World) {t et : TypeId} (A : Option Addr) (m cp : Nat) (h : P.underlying t = some (.slice et)) (ng : Bool) :
    (binOp (bif ng then .neq else .eql) t (.slice A m cp) (.slice none 0 0)).run P w = .ok (.bool (bif ng then !A.isNone else A.isNone)) w := by
  have h2 : ∀ d : Nat, (Op.equalIn (d + 1) t (.slice A m cp) (.slice none 0 0)).run P w = .ok A.isNone w := fun d => by
    cases A <;> simp [Op.equalIn, run_underlying h]
  cases ng <;> simp only [binOp, cond_true, cond_false] <;> simp [Op.equal, Op.maxDepth, h2 9999]
theorem nil_sound {X : Cx} {β : Nat → Pl} {D : Nat → Prop} {S : Nat → CS} {Z : CS} {sl : Nat → DV} {ob : Nat → OB} {outs : List CV} {a : Act} {w : World} (hr : RelAt X β D S Z sl ob outs a w) {st : St} (hs : st.slot = sl) {o : Oper} {ng : Bool} {t : TypeId} {c : CV} {e : K} {n : Nat}
    (hn : nilArg o st.eval = some (ng, t, c)) (hk : TyOk X.P (.sl e) t) (hl : nilLen ob c = some n) : ∃ b : Bool, (n ≠ 0 → b = ng) ∧ Does X.P o a w (After X sl ob outs a (.e2 (.v false [.bool b]) [])) := by
  obtain ⟨x, ty, hop, hx⟩ := nilArg_some hn
  have hv := hr.eval st hs x
  rw [hx] at hv
  have hA : ∃ A m cp, a.eval x = .slice A m cp ∧ (n ≠ 0 → A ≠ none) := by
    unfold nilLen at hl
    split at hl
    · cases hl; obtain ⟨A, h⟩ := (hv : VR X β D Z w .nil _); exact ⟨A, 0, 0, h, fun h => absurd rfl h⟩
    · cases hl
      rename_i e' l
      have hv : VR X β D Z w (.fz e' l) (a.eval x) := hv
      simp only [VR, H] at hv
      obtain ⟨A, cp, h1, _, h2⟩ := hv
      simp at h1
      exact ⟨A, _, cp, h1, fun h => by obtain ⟨g, off, cs, h3, _⟩ := h2 (by omega); rw [h3]; simp⟩
    · rename_i o'
      have hv : VR X β D Z w (.arr o') (a.eval x) := hv
      obtain ⟨hD, hv⟩ := hv
      have hob := hr.objs o'
      split at hl
      · rename_i e' d fr l ho
        cases hl
        rw [ho] at hob
        refine ⟨_, _, _, hv, fun h => ?_⟩
        cases fr with
        | true =>
          obtain ⟨h1, _, _, h2⟩ := hob
          obtain ⟨g, off, cs, h3, _⟩ := h2 (by omega)
          rw [h3]; simp
        | false =>
          obtain ⟨h1, _, h2⟩ := hob
          rcases h2 with ⟨h2, _⟩ | ⟨g, cur, ty, fr, S1, h3, _⟩
          · omega
          · rw [h3]; simp
      · cases hl
    · cases hl
  obtain ⟨A, m, cp, hv, hA⟩ := hA
  obtain ⟨et, hu, _⟩ := hk
  have fin : ∀ b, (binOp (bif ng then .neq else .eql) t (a.eval x) (a.eval (.const (.slice none 0 0)))).run X.P w = .ok (.bool b) w → Does X.P o a w (After X sl ob outs a (.e2 (.v false [.bool b]) [])) := fun b hb =>
    does_value (run_binOp_op hop (by rw [hv]; cases ng <;> simp [eqGuard]) hb) (after_one (c := .bool b) hr rfl rfl (by simp))
  refine ⟨bif ng then !A.isNone else A.isNone, fun h => ?_, fin _ ?_⟩
  · cases A with
    | none => exact absurd rfl (hA h)
    | some A => cases ng <;> rfl
  · rw [hv]
    exact run_nil w A m cp hu ng
theorem runOps_sound {X : Cx} {E : Env} {k : Nat} (hE : EnvOk X.P E k) {ρ : Type} {ops : Array Oper} {rid : Nat} {Q : Exit → Act → World → Prop} {y : ρ} : ∀ (l : List Oper) (i : Nat) (st : St) (C : St → Option ρ) (a : Act) (w : World), runOps E k ops.toList rid i l st C = some y → Rel X st a w →
    (∀ o ∈ l, ∀ t, o.dst = some t → t < X.n) → (∀ st' a' w', Rel X st' a' w' → C st' = some y → Q .normal a' w') → wpList X.P ops Q l a w
  | [], i, st, C, a, w, h, hr, hd, hC => hC st a w hr h
  | o :: r, i, st, C, a, w, h, hr, hd, hC => by
    obtain ⟨st', h1, h2, h3, h4⟩ := guardM_some h
    have hr' := hr
    obtain ⟨β, D, S, Z, hra⟩ := hr'
    have hdo := hd o (.head _)
    have hdr : ∀ o ∈ r, ∀ t, o.dst = some t → t < X.n := fun o ho => hd o (.tail _ ho)
    unfold wpList
    rcases h4 with ⟨hw, hA⟩ | ⟨hw, hB⟩
    · rw [if_pos (wanted_of hra hw)]
      left
      rw [← h1, ← h2, ← h3] at hra
      unfold nilM at hA
      split at hA
      · rename_i ng t c hn
        split at hA
        · rename_i e n ht hl
          obtain ⟨b, hb, hdoes⟩ := nil_sound hra rfl hn (hE.ty.1 _ _ ht) hl
          refine hdoes _ Q fun v w' hAf => runOps_sound (rid := rid) hE r (i + 1) _ C _ _ ?_ (Rel.after hdo hAf) hdr hC
          show runOps E k ops.toList rid (i + 1) r (st'.setSlot o.dst (.v false [.bool b])) C = some y
          cases hz : Nat.beq n 0 with
          | true =>
            rw [hz] at hA
            obtain ⟨k1, k2⟩ := agree_some hA
            cases b with
            | true => exact k1
            | false => exact k2
          | false =>
            rw [hz] at hA
            have : n ≠ 0 := fun h => by subst h; cases hz
            rw [hb this]; exact hA
        · cases hA
      have hopen : openM E o (nidOf rid i) st' ((eff E k o (nidOf rid i) st'.eval).run st'.ob [] fun e _ => closeM o (st'.after o.dst e) fun st => runOps E k ops.toList rid (i + 1) r st C) (fun st => runOps E k ops.toList rid (i + 1) r st C) = some y → o.wp X.P a w (wpList X.P ops Q r) Q := fun hA => by
        unfold openM at hA
        have hplain : ((eff E k o (nidOf rid i) st'.eval).run st'.ob [] fun e _ => closeM o (st'.after o.dst e) fun st => runOps E k ops.toList rid (i + 1) r st C) = some y → o.wp X.P a w (wpList X.P ops Q r) Q := fun hA => by
          obtain ⟨e, lg, h5, h6⟩ := M.run_some _ _ _ _ hA
          refine eff_sound hE.ty hE.eq hE.fn hra rfl h5 _ Q fun v w' hAf => ?_
          obtain ⟨st2, hr2, h7⟩ := close_sound h6 (Rel.after hdo hAf)
          exact runOps_sound hE r (i + 1) _ C _ _ h7 hr2 hdr hC
        split at hA
        · rename_i t x ii jj hoa
          split at hA
          · rename_i e' e l ht hx
            split at hA
            · rename_i e2 l2 hat hnon
              split at hA
              · rename_i hk _
                subst hk
                exact open_sound hra rfl hoa (hE.ty.1 _ _ ht) hx hat hnon _ Q fun v w' hAf => runOps_sound (rid := rid) hE r (i + 1) _ C _ _ hA (Rel.after (e := ⟨.v false [.arr (nidOf rid i)], [(x, .hole e l ii jj (nidOf rid i)), (nidOf rid i, .arr e' true false l2)], []⟩) hdo hAf) hdr hC
              · cases hA
            · cases hA
          · exact hplain hA
        · exact hplain hA
      have go : ∀ (e : Eff), Does X.P o a w (After X st'.slot st'.ob st'.outs a e) → runOps E k ops.toList rid (i + 1) r (st'.after o.dst e) C = some y → o.wp X.P a w (wpList X.P ops Q r) Q := fun e hd hA =>
        hd _ Q fun v w' hAf => runOps_sound (rid := rid) hE r (i + 1) _ C _ _ hA (Rel.after hdo hAf) hdr hC
      have ev := hra.eval st' rfl
      unfold parM at hA
      split at hA
      · rename_i t x y' hop
        split at hA
        · rename_i r' hx
          split at hA
          · rename_i e l m ho
            split at hA
            · rename_i e' _ n ht hy
              split at hA
              · rename_i he _
                subst he
                cases hb : inB n l.length with
                | false => rw [hb] at hA; cases hA
                | true =>
                  rw [hb] at hA
                  have h1 := ev x
                  rw [hx] at h1
                  have h2 := ev y'
                  rw [hy] at h2
                  exact go (.e2 (.v false [.el r' n 0]) []) (par_index hra hop (hE.ty.1 _ _ ht) h1 h2 ho hb) hA
              · cases hA
            · cases hA
          · exact hopen hA
        · exact hopen hA
      · rename_i t x hop
        split at hA
        · rename_i r' ii jj hx
          split at hA
          · rename_i e l m ho
            split at hA
            · rename_i κ ht
              cases hb : decide (m ≤ ii) with
              | false => rw [hb] at hA; cases hA
              | true =>
                rw [hb] at hA
                cases hc : Nat.beq (((e.cvs (l.getD ii.toNat e.zero)).drop jj).take κ.n).length κ.n with
                | false => rw [hc] at hA; cases hA
                | true =>
                  rw [hc] at hA
                  have h1 := ev x
                  rw [hx] at h1
                  exact go (.e2 (.v κ.agg (((e.cvs (l.getD ii.toNat e.zero)).drop jj).take κ.n)) []) (par_load hra hop (hE.ty.1 _ _ ht) h1 ho (of_decide_eq_true hb) (Nat.eq_of_beq_eq_true hc)) hA
            · cases hA
          · exact hopen hA
        · exact hopen hA
      · rename_i t x y' hop
        split at hA
        · rename_i r' ii jj hx
          split at hA
          · rename_i e l m ho
            split at hA
            · rename_i et n ht hy
              split at hA
              · rename_i e3 d l2 hn
                split at hA
                · rename_i z hz
                  cases hb : ((d || e3.flat) && (e.only jj && !Nat.beq r' n)) with
                  | false => rw [hb] at hA; cases hA
                  | true =>
                    rw [hb] at hA
                    simp only [Bool.and_eq_true, Bool.not_eq_true'] at hb
                    cases hi : ii == m with
                    | false => rw [hi] at hA; cases hA
                    | true =>
                      rw [hi] at hA
                      have h1 := ev x
                      rw [hx] at h1
                      have h2 := ev y'
                      rw [hy] at h2
                      have hne : r' ≠ n := fun e => by rw [e, Nat.beq_refl] at hb; cases hb.2.2
                      exact go ⟨.v false [.und], [(n, .dead), (r', .par e (l.set ii.toNat z) (m + 1))], []⟩ (par_store hra hop (hE.ty.1 _ _ ht) h1 h2 ho hn hb.1 hb.2.1 hne hz (by simpa using hi)) hA
                · cases hA
              · cases hA
            · cases hA
          · exact hopen hA
        · exact hopen hA
      · exact hopen hA
    · rw [if_neg (by rw [wanted_of hra hw]; simp)]
      rw [← h1, ← h2, ← h3] at hra
      exact runOps_sound hE r (i + 1) _ C _ _ hB (Rel.slotD hra hdo rfl) hdr hC
end Go.Dn
/- Regions whose operations run in an order that is drawn. -/
set_option linter.unusedVariables false
namespace Go.Dn

/-- What M computes, and which objects it asked. -/
def M.evL {α : Type} (ob : Nat → OB) : M α → List Nat → Option (α × List Nat)
  | .ret a, lg => some (a, lg)
  | .fail, _ => none
  | .no, _ => none
  | .rd o k, lg => (k (ob o)).evL ob (o :: lg)
  | .br b x y, lg => bif b then x.evL ob lg else y.evL ob lg
  | .opt x k, lg => x.bind fun y => (k y).evL ob lg
  | .sh a k, lg => (k a).evL ob lg
theorem M.run_someL {α ρ : Type} {ob : Nat → OB} : ∀ (m : M α) (lg : List Nat) (K : α → List Nat → Option ρ) (y : ρ), m.run ob lg K = some y → ∃ a lg', m.evL ob lg = some (a, lg') ∧ K a lg' = some y
  | .ret a, lg, K, y, h => ⟨a, lg, rfl, h⟩
  | .fail, _, _, _, h => by simp [M.run, hard] at h
  | .no, _, _, _, h => by simp [M.run] at h
  | .rd o k, lg, K, y, h => M.run_someL (k (ob o)) (o :: lg) K y h
  | .br true a b, lg, K, y, h => M.run_someL a lg K y h
  | .br false a b, lg, K, y, h => M.run_someL b lg K y h
  | .opt none k, lg, K, y, h => by simp [M.run] at h
  | .opt (some z) k, lg, K, y, h => M.run_someL (k z) lg K y h
  | .sh z k, lg, K, y, h => M.run_someL (k z) lg K y h
theorem M.evL_ev {α : Type} {ob : Nat → OB} : ∀ (m : M α) (lg : List Nat) (x : α × List Nat), m.evL ob lg = some x → m.ev ob = some x.1
  | .ret a, lg, x, h => by cases h; rfl
  | .fail, _, _, h => by cases h
  | .no, _, _, h => by cases h
  | .rd o k, lg, x, h => M.evL_ev (k (ob o)) (o :: lg) x h
  | .br true a b, lg, x, h => M.evL_ev a lg x h
  | .br false a b, lg, x, h => M.evL_ev b lg x h
  | .opt none k, lg, x, h => by cases h
  | .opt (some z) k, lg, x, h => M.evL_ev (k z) lg x h
  | .sh z k, lg, x, h => M.evL_ev (k z) lg x h
theorem M.evL_mem {α : Type} {ob : Nat → OB} : ∀ (m : M α) (lg : List Nat) (x : α × List Nat), m.evL ob lg = some x → ∀ o ∈ lg, o ∈ x.2
  | .ret a, lg, x, h => by cases h; exact fun _ h => h
  | .fail, _, _, h => by cases h
  | .no, _, _, h => by cases h
  | .rd o k, lg, x, h => fun i hi => M.evL_mem (k (ob o)) (o :: lg) x h i (.tail _ hi)
  | .br true a b, lg, x, h => M.evL_mem a lg x h
  | .br false a b, lg, x, h => M.evL_mem b lg x h
  | .opt none k, lg, x, h => by cases h
  | .opt (some z) k, lg, x, h => M.evL_mem (k z) lg x h
  | .sh z k, lg, x, h => M.evL_mem (k z) lg x h
theorem M.evL_same {α : Type} {ob ob' : Nat → OB} : ∀ (m : M α) (lg : List Nat) (x : α × List Nat), m.evL ob lg = some x → (∀ o ∈ x.2, ob' o = ob o) → m.evL ob' lg = some x
  | .ret a, lg, x, h, _ => h
  | .fail, _, _, h, _ => by cases h
  | .no, _, _, h, _ => by cases h
  | .rd o k, lg, x, h, hs => by
    have := M.evL_mem (k (ob o)) (o :: lg) x h o (.head _)
    show (k (ob' o)).evL ob' (o :: lg) = some x
    rw [hs o this]
    exact M.evL_same (k (ob o)) (o :: lg) x h hs
  | .br true a b, lg, x, h, hs => M.evL_same a lg x h hs
  | .br false a b, lg, x, h, hs => M.evL_same b lg x h hs
  | .opt none k, lg, x, h, _ => by cases h
  | .opt (some z) k, lg, x, h, hs => M.evL_same (k z) lg x h hs
  | .sh z k, lg, x, h, hs => M.evL_same (k z) lg x h hs

def evalF (sl : Nat → DV) : Operand → DV
  | .tmp t => sl t
  | .const v => constDV v
  | .func f => .v false [.clo f []]
  | .global _ => .v false [.und]
theorem evalF_eq (st : St) : st.eval = evalF st.slot := by funext x; cases x <;> rfl

theorem eff_congr (E : Env) (k : Nat) (o : Oper) (nid : Nat) {ev ev' : Operand → DV} (h : ∀ x ∈ o.op.operands, ev x = ev' x) : eff E k o nid ev = eff E k o nid ev' := by
  obtain ⟨dst, op, type, pos, after, guard⟩ := o
  have lst : ∀ xs : Array Operand, (∀ x ∈ xs, ev x = ev' x) → xs.toList.map ev = xs.toList.map ev' := fun xs hx => List.map_congr_left fun x h => hx x (by simpa using h)
  have pairs : ∀ ps : Array (Nat × Operand), (∀ x ∈ ps.map (·.2), ev x = ev' x) → (ps.toList.map fun p => (p.1, ev p.2)) = (ps.toList.map fun p => (p.1, ev' p.2)) := fun ps hp =>
    List.map_congr_left fun p hm => by rw [hp p.2 (Array.mem_map.2 ⟨p, by simpa using hm, rfl⟩)]
  cases op <;> simp only [Op.operands] at h <;> simp only [eff]
  case build t ps => rw [pairs ps fun x hx => h x (by simpa using hx)]
  case buildSlice t n ps => rw [pairs ps fun x hx => h x (by simpa using hx)]
  case makeFunc fn first captured =>
    cases fn <;> dsimp only
    rw [lst captured fun x hx => h x (by simp [hx])]
  case call c =>
    have hargs := lst c.args fun x hx => h x (by simp [Call.operands, hx])
    simp only [hargs]
    cases hc : c.callee with
    | value f => have hf : ev f = ev' f := h f (by simp [Call.operands, hc]); simp only [hf]
    | invoke r m => rfl
    | builtin b => rfl
  case slice t x lo hi mx => cases lo <;> cases hi <;> cases mx <;> simp_all
  all_goals (first | rfl | (simp_all; done))

structure FS where
  sl : Nat → DV
  ob : Nat → OB
def keys (l : List (Nat × OB)) : List Nat := l.map (·.1)
/-- One operation, as a step between states; what it asks and changes of the objects. -/
def StepF (E : Env) (k : Nat) (ops : Array Oper) (rid i : Nat) (L : List Nat × List Nat) (s s' : FS) : Prop :=
  ∃ o, ops[i]? = some o ∧ ((wantF ops.toList o.guard s.sl = some false ∧ s' = ⟨setF s.sl o.dst (.v false [.skip]), s.ob⟩ ∧ L = ([], [])) ∨
    (wantF ops.toList o.guard s.sl = some true ∧ ∃ e l, (eff E k o (nidOf rid i) (evalF s.sl)).evL s.ob [] = some (e, l) ∧ e.stale = [] ∧ L = (l, keys e.upd) ∧ s' = ⟨setF s.sl o.dst e.res, updAll s.ob e.upd⟩))
def RunF (E : Env) (k : Nat) (ops : Array Oper) (rid : Nat) (L : Nat → List Nat × List Nat) : List Nat → FS → FS → Prop
  | [], s, s' => s = s'
  | i :: r, s, s' => ∃ s1, StepF E k ops rid i (L i) s s1 ∧ RunF E k ops rid L r s1 s'

/-- Two operations that do not meet. -/
structure Indep (ops : Array Oper) (L : Nat → List Nat × List Nat) (i j : Nat) : Prop where
  u : ∀ o ∈ (L j).2, o ∉ (L i).1 ∧ o ∉ (L i).2
  l : ∀ o ∈ (L j).1, o ∉ (L i).2
  s : ∀ oi oj, ops[i]? = some oi → ops[j]? = some oj → (∀ t ∈ setsOf oj, t ∉ asksOf ops.toList oi ∧ t ∉ setsOf oi) ∧ ∀ t ∈ asksOf ops.toList oj, t ∉ setsOf oi

theorem setF_out {sl : Nat → DV} {o : Oper} {x : DV} {t : Nat} (h : t ∉ setsOf o) : setF sl o.dst x t = sl t := by
  unfold setsOf at h
  unfold setF
  cases hd : o.dst with
  | none => rfl
  | some d =>
    rw [hd] at h
    simp at h
    exact upd_ne _ _ h
theorem tmps_mem : ∀ (l : List Operand) (t : Nat), Operand.tmp t ∈ l → t ∈ tmpsOf l
  | x :: r, t, h => by
    rcases List.mem_cons.1 h with rfl | h
    · exact .head _
    · have := tmps_mem r t h
      cases x <;> first | exact .tail _ this | exact this
theorem evalF_out {ops : Array Oper} {sl : Nat → DV} {o oj : Oper} {x : DV} (h : ∀ t ∈ asksOf ops.toList o, t ∉ setsOf oj) {p : Operand} (hp : p ∈ o.op.operands) : evalF (setF sl oj.dst x) p = evalF sl p := by
  cases p with
  | tmp t =>
    refine setF_out (h t ?_)
    have : t ∈ tmpsOf o.op.operands.toList := tmps_mem _ t (by simpa using hp)
    unfold asksOf
    split
    · split
      · exact .tail _ this
      · exact this
    · exact this
  | _ => rfl
theorem wantF_out {ops : Array Oper} {sl : Nat → DV} {o oj : Oper} {x : DV} (h : ∀ t ∈ asksOf ops.toList o, t ∉ setsOf oj) : wantF ops.toList o.guard (setF sl oj.dst x) = wantF ops.toList o.guard sl := by
  unfold wantF
  cases hg : o.guard with
  | none => rfl
  | some jw =>
    obtain ⟨j, want⟩ := jw
    simp only
    cases ht : dstOf ops.toList j with
    | none => rfl
    | some t =>
      simp only
      rw [setF_out (h t (by unfold asksOf; rw [hg]; simp only [ht]; exact .head _))]
theorem updAll_out' {f : Nat → OB} {l : List (Nat × OB)} {i : Nat} (h : i ∉ keys l) : updAll f l i = f i :=
  updAll_out l f i fun x hx e => h (List.mem_map.2 ⟨x, hx, e⟩)
theorem updAll_comm : ∀ (l r : List (Nat × OB)) (f : Nat → OB), (∀ o ∈ keys l, o ∉ keys r) → updAll (updAll f l) r = updAll (updAll f r) l
  | [], r, f, h => rfl
  | (i, x) :: l, r, f, h => by
    show updAll (updAll (upd f i x) l) r = updAll (upd (updAll f r) i x) l
    rw [updAll_comm l r _ fun o ho => h o (.tail _ ho)]
    congr 1
    exact upd_updAll r f i x fun y hy e => h i (.head _) (List.mem_map.2 ⟨y, hy, e⟩)
theorem setF_comm {sl : Nat → DV} {oi oj : Oper} {x y : DV} (h : ∀ t ∈ setsOf oj, t ∉ setsOf oi) : setF (setF sl oi.dst x) oj.dst y = setF (setF sl oj.dst y) oi.dst x := by
  unfold setsOf at h
  unfold setF
  cases hi : oi.dst with
  | none => rfl
  | some d =>
    cases hj : oj.dst with
    | none => rfl
    | some d' =>
      rw [hi, hj] at h
      have hne : d' ≠ d := by simpa using h
      funext t
      show upd (upd sl d x) d' y t = upd (upd sl d' y) d x t
      by_cases e1 : t = d
      · subst e1; rw [upd_ne _ _ (fun e => hne e.symm), upd_same, upd_same]
      · by_cases e2 : t = d'
        · subst e2; rw [upd_same, upd_ne _ _ e1, upd_same]
        · rw [upd_ne _ _ e2, upd_ne _ _ e1, upd_ne _ _ e1, upd_ne _ _ e2]
theorem step_at {E : Env} {k : Nat} {ops : Array Oper} {rid i : Nat} {L : List Nat × List Nat} {s s1 : FS} (h : StepF E k ops rid i L s s1) : ∃ o r up, ops[i]? = some o ∧ s1 = ⟨setF s.sl o.dst r, updAll s.ob up⟩ ∧ keys up = L.2 ∧
    ∀ s' : FS, (∀ p ∈ o.op.operands, evalF s'.sl p = evalF s.sl p) → wantF ops.toList o.guard s'.sl = wantF ops.toList o.guard s.sl → (∀ z ∈ L.1, s'.ob z = s.ob z) → StepF E k ops rid i L s' ⟨setF s'.sl o.dst r, updAll s'.ob up⟩ := by
  obtain ⟨o, ho, ⟨h1, rfl, rfl⟩ | ⟨h1, e, l, h2, h3, rfl, rfl⟩⟩ := h
  · exact ⟨o, _, [], ho, rfl, rfl, fun s' _ hw _ => ⟨o, ho, .inl ⟨hw.trans h1, rfl, rfl⟩⟩⟩
  · refine ⟨o, _, _, ho, rfl, rfl, fun s' he hw hl => ⟨o, ho, .inr ⟨hw.trans h1, e, l, ?_, h3, rfl, rfl⟩⟩⟩
    rw [eff_congr E k o _ he]
    exact M.evL_same _ _ _ h2 hl
theorem swap {E : Env} {k : Nat} {ops : Array Oper} {rid i j : Nat} {L : Nat → List Nat × List Nat} {s s1 s2 : FS} (h1 : StepF E k ops rid i (L i) s s1) (h2 : StepF E k ops rid j (L j) s1 s2) (hI : Indep ops L i j) :
    ∃ s', StepF E k ops rid j (L j) s s' ∧ StepF E k ops rid i (L i) s' s2 := by
  obtain ⟨oi, ri, ui, hi, rfl, ki, gi⟩ := step_at h1
  obtain ⟨oj, rj, uj, hj, rfl, kj, gj⟩ := step_at h2
  obtain ⟨hs, ha⟩ := hI.s oi oj hi hj
  have g1 := gj s (fun p hp => (evalF_out ha hp).symm) (wantF_out ha).symm (fun z hz => (updAll_out' (by rw [ki]; exact hI.l z hz)).symm)
  refine ⟨_, g1, ?_⟩
  have ha2 : ∀ t ∈ asksOf ops.toList oi, t ∉ setsOf oj := fun t ht h => (hs t h).1 ht
  have g2 := gi ⟨setF s.sl oj.dst rj, updAll s.ob uj⟩ (fun p hp => evalF_out ha2 hp) (wantF_out ha2) (fun z hz => updAll_out' (by rw [kj]; exact fun h => (hI.u z h).1 hz))
  have e1 := setF_comm (sl := s.sl) (oi := oi) (oj := oj) (x := ri) (y := rj) fun t ht => (hs t ht).2
  have e2 := updAll_comm ui uj s.ob fun o h1 h2 => (hI.u o (by rw [← kj]; exact h2)).2 (by rw [← ki]; exact h1)
  simp only at g2 ⊢
  rw [e1, e2]
  exact g2
theorem bubble {E : Env} {k : Nat} {ops : Array Oper} {rid : Nat} {L : Nat → List Nat × List Nat} {j : Nat} : ∀ (pre post : List Nat) (s s' : FS), RunF E k ops rid L (pre ++ j :: post) s s' → (∀ i ∈ pre, Indep ops L i j) → RunF E k ops rid L (j :: (pre ++ post)) s s'
  | [], post, s, s', h, _ => h
  | i :: pre, post, s, s', h, hI => by
    obtain ⟨s1, h1, h2⟩ := h
    obtain ⟨s2, h3, h4⟩ := bubble pre post s1 s' h2 fun z hz => hI z (.tail _ hz)
    obtain ⟨s3, h5, h6⟩ := swap h1 h3 (hI i (.head _))
    exact ⟨s3, h5, s2, h6, h4⟩
end Go.Dn
/- Regions whose operations run in an order that is drawn: any order comes to the same. -/
set_option linter.unusedVariables false
namespace Go.Dn

def Lg (L : Nat → List Nat × List Nat) : Nat → List (Nat × List Nat × List Nat) → Prop
  | 0, lg => lg = []
  | n + 1, lg => (L n = ([], []) ∧ Lg L n lg) ∨ ∃ r, lg = (n, L n) :: r ∧ Lg L n r
theorem Lg.congr {L L' : Nat → List Nat × List Nat} : ∀ (n : Nat) (lg : List (Nat × List Nat × List Nat)), (∀ q, q < n → L' q = L q) → Lg L n lg → Lg L' n lg
  | 0, lg, _, h => h
  | n + 1, lg, hL, h => by
    have e := hL n (Nat.lt_succ_self n)
    rcases h with ⟨h1, h2⟩ | ⟨r, h1, h2⟩
    · exact .inl ⟨by rw [e, h1], Lg.congr n lg (fun q hq => hL q (by omega)) h2⟩
    · exact .inr ⟨r, by rw [e, h1], Lg.congr n r (fun q hq => hL q (by omega)) h2⟩
theorem RunF.congr {E : Env} {k : Nat} {ops : Array Oper} {rid : Nat} {L L' : Nat → List Nat × List Nat} : ∀ (R : List Nat) (s s' : FS), (∀ q ∈ R, L' q = L q) → RunF E k ops rid L R s s' → RunF E k ops rid L' R s s'
  | [], _, _, _, h => h
  | i :: R, s, s', hL, h => by
    obtain ⟨s1, h1, h2⟩ := h
    exact ⟨s1, by rw [hL i (.head _)]; exact h1, RunF.congr R s1 s' (fun q hq => hL q (.tail _ hq)) h2⟩
theorem runOpsL_run {E : Env} {k : Nat} {ρ : Type} {ops : Array Oper} {rid : Nat} {y : ρ} : ∀ (l : List Oper) (i : Nat) (st : St) (lg : List (Nat × List Nat × List Nat)) (C : St → List (Nat × List Nat × List Nat) → Option ρ) (L : Nat → List Nat × List Nat), runOpsL E k ops.toList rid i l st lg C = some y →
    (∀ j, l[j]? = ops[i + j]?) → Lg L i lg → ∃ L' st' lg', (∀ q, q < i → L' q = L q) ∧ RunF E k ops rid L' (List.range' i l.length) ⟨st.slot, st.ob⟩ ⟨st'.slot, st'.ob⟩ ∧ st'.outs = st.outs ∧ Lg L' (i + l.length) lg' ∧ C st' lg' = some y
  | [], i, st, lg, C, L, h, hl, hL => ⟨L, st, lg, fun _ _ => rfl, rfl, rfl, hL, h⟩
  | o :: r, i, st, lg, C, L, h, hl, hL => by
    obtain ⟨st', h1, h2, h3, h4⟩ := guardM_some h
    have ho : ops[i]? = some o := by simpa using (hl 0).symm
    have hr : ∀ j, r[j]? = ops[i + 1 + j]? := fun j => by
      have := hl (j + 1)
      rw [List.getElem?_cons_succ] at this
      rw [this]; congr 1; omega
    have hup : ∀ (x : List Nat × List Nat) q, q < i → upd L i x q = L q := fun x q hq => upd_ne _ _ (by omega)
    have fin : ∀ (x : List Nat × List Nat) (st1 : St) lg1 , StepF E k ops rid i x ⟨st.slot, st.ob⟩ ⟨st1.slot, st1.ob⟩ → st1.outs = st.outs → Lg (upd L i x) (i + 1) lg1 → runOpsL E k ops.toList rid (i + 1) r st1 lg1 C = some y →
        ∃ L' st' lg', (∀ q, q < i → L' q = L q) ∧ RunF E k ops rid L' (List.range' i (r.length + 1)) ⟨st.slot, st.ob⟩ ⟨st'.slot, st'.ob⟩ ∧ st'.outs = st.outs ∧ Lg L' (i + (r.length + 1)) lg' ∧ C st' lg' = some y := fun x st1 lg1 hs ho1 hlg hrun => by
      obtain ⟨L', st2, lg', k1, k2, k3, k4, k5⟩ := runOpsL_run r (i + 1) st1 lg1 C (upd L i x) hrun hr hlg
      refine ⟨L', st2, lg', fun q hq => (k1 q (by omega)).trans (hup x q hq), ?_, k3.trans ho1, by rw [show i + (r.length + 1) = i + 1 + r.length by omega]; exact k4, k5⟩
      rw [List.range'_succ]
      exact ⟨_, by rw [k1 i (by omega), upd_same]; exact hs, k2⟩
    rcases h4 with ⟨hw, hA⟩ | ⟨hw, hB⟩
    · obtain ⟨e, lg1, h5, h6⟩ := M.run_someL _ _ _ _ hA
      cases hst : e.stale with
      | cons _ _ => rw [hst] at h6; cases h6
      | nil =>
        rw [hst] at h6
        refine fin (lg1, keys e.upd) _ _ ⟨o, ho, .inr ⟨hw, e, lg1, by rw [← h1, ← h2, ← evalF_eq]; exact h5, hst, rfl, ?_⟩⟩ ?_ ?_ h6
        · have e1 : ({ st' with objs := putAll st'.objs e.upd } : St).ob = updAll st'.ob e.upd := look_putAll _ _ _
          simp only [St.after, hst, St.fresh, slot_setSlot, ob_setSlot, e1]
          rw [← h1, ← h2]; rfl
        · simp only [St.after, hst, St.fresh, outs_setSlot]; exact h3
        · exact .inr ⟨lg, by rw [upd_same]; rfl, Lg.congr i lg (hup _) hL⟩
    · refine fin ([], []) _ _ ⟨o, ho, .inl ⟨hw, ?_, rfl⟩⟩ ?_ ?_ hB
      · rw [slot_setSlot, ob_setSlot, h1, h2]
      · rw [outs_setSlot, h3]
      · exact .inl ⟨upd_same _ _ _, Lg.congr i lg (hup _) hL⟩

/-! ### The checks -/
theorem apartLog_ok {b : List Nat} {L : Nat → List Nat × List Nat} : ∀ (n : Nat) (lg : List (Nat × List Nat × List Nat)), Lg L n lg → apartLog b lg = true →
    (∀ p q, p < q → q < n → (b.getD q 0).testBit p = true ∨ ((∀ o ∈ (L q).2, o ∉ (L p).1 ∧ o ∉ (L p).2) ∧ ∀ o ∈ (L q).1, o ∉ (L p).2)) ∧ (∀ p, p < n → L p = ([], []) ∨ (p, L p) ∈ lg)
  | 0, lg, h, _ => ⟨fun p q h1 h2 => by omega, fun p h => by omega⟩
  | n + 1, lg, h, hc => by
    rcases h with ⟨h1, h2⟩ | ⟨r, rfl, h2⟩
    · obtain ⟨k1, k2⟩ := apartLog_ok n lg h2 hc
      refine ⟨fun p q hp hq => ?_, fun p hp => ?_⟩
      · by_cases e : q = n
        · subst e; right; rw [h1]; exact ⟨fun o ho => (by cases ho), fun o ho => (by cases ho)⟩
        · exact k1 p q hp (by omega)
      · by_cases e : p = n
        · subst e; exact .inl h1
        · exact k2 p (by omega)
    · simp only [apartLog, Bool.and_eq_true] at hc
      obtain ⟨k1, k2⟩ := apartLog_ok n r h2 hc.2
      refine ⟨fun p q hp hq => ?_, fun p hp => ?_⟩
      · by_cases e : q = n
        · subst e
          rcases k2 p hp with h | h
          · right; rw [h]; exact ⟨fun o _ => ⟨fun h => (by cases h), fun h => (by cases h)⟩, fun o _ h => (by cases h)⟩
          · have := List.all_eq_true.1 hc.1 _ h
            simp only [Bool.or_eq_true, Bool.and_eq_true] at this
            refine this.imp id fun ⟨h3, h4⟩ => ⟨fun o ho => ?_, fun o ho => apartN_ok h4 o ho⟩
            have := apartN_ok h3 o ho
            exact ⟨fun h => this (List.mem_append.2 (.inl h)), fun h => this (List.mem_append.2 (.inr h))⟩
        · exact k1 p q hp (by omega)
      · by_cases e : p = n
        · subst e; exact .inr (.head _)
        · exact (k2 p (by omega)).imp id (.tail _)
theorem apartTmps_ok {b : List Nat} {ops : List Oper} : ∀ (r : List Oper) (j : Nat) (l : List (Nat × List Nat × List Nat)), apartTmps b ops j l r = true → (∀ i, r[i]? = ops[j + i]?) → (∀ p o, p < j → ops[p]? = some o → (p, asksOf ops o, setsOf o) ∈ l) →
    ∀ p q, p < q → j ≤ q → ∀ oi oj, ops[p]? = some oi → ops[q]? = some oj → (b.getD q 0).testBit p = true ∨ ((∀ t ∈ setsOf oj, t ∉ asksOf ops oi ∧ t ∉ setsOf oi) ∧ ∀ t ∈ asksOf ops oj, t ∉ setsOf oi)
  | [], j, l, h, hr, hl, p, q, hpq, hjq, oi, oj, hi, hj => by
    have := hr (q - j)
    rw [show j + (q - j) = q by omega, hj] at this
    cases this
  | o :: r, j, l, h, hr, hl, p, q, hpq, hjq, oi, oj, hi, hj => by
    simp only [apartTmps, Bool.and_eq_true] at h
    by_cases e : q = j
    · subst e
      have ho : oj = o := by have := hr 0; simp at this; rw [hj] at this; exact (Option.some.inj this).symm
      subst ho
      have := List.all_eq_true.1 h.1 _ (hl p oi hpq hi)
      simp only [Bool.or_eq_true, Bool.and_eq_true] at this
      refine this.imp id fun ⟨h3, h4⟩ => ⟨fun t ht => ?_, fun t ht => apartN_ok h4 t ht⟩
      have := apartN_ok h3 t ht
      exact ⟨fun h => this (List.mem_append.2 (.inl h)), fun h => this (List.mem_append.2 (.inr h))⟩
    · refine apartTmps_ok r (j + 1) _ h.2 (fun i => ?_) (fun p' o' hp' ho' => ?_) p q hpq (by omega) oi oj hi hj
      · have := hr (i + 1)
        rw [List.getElem?_cons_succ] at this
        rw [this]; congr 1; omega
      · by_cases e2 : p' = j
        · subst e2
          have : o' = o := by have := hr 0; simp at this; rw [ho'] at this; exact (Option.some.inj this).symm
          subst this
          exact .head _
        · exact .tail _ (hl p' o' (by omega) ho')
theorem binds_any {e : Edge} {md : Region.Mode} (h : Region.binds .any e = true) : Region.binds md e = true := by
  unfold Region.binds at h ⊢
  split <;> simp_all
theorem ancOne_bit (acc : List Nat) : ∀ (l : List Edge) (p : Nat), (ancOne acc l).testBit p = true → ∃ e ∈ l, Region.binds .any e = true ∧ (p = e.on ∨ (acc.getD e.on 0).testBit p = true)
  | [], p, h => by simp [ancOne] at h
  | e :: r, p, h => by
    simp only [ancOne] at h
    cases hb : Region.binds .any e with
    | false =>
      rw [hb] at h
      obtain ⟨e', h1, h2⟩ := ancOne_bit acc r p h
      exact ⟨e', .tail _ h1, h2⟩
    | true =>
      rw [hb] at h
      simp only [cond_true] at h
      change (((2 ^ e.on ||| acc.getD e.on 0) ||| ancOne acc r).testBit p) = true at h
      rw [Nat.testBit_or, Nat.testBit_or, Bool.or_eq_true, Bool.or_eq_true] at h
      rcases h with (h | h) | h
      · exact ⟨e, .head _, hb, .inl (by rw [Nat.testBit_two_pow] at h; simpa using (of_decide_eq_true h).symm)⟩
      · exact ⟨e, .head _, hb, .inr h⟩
      · obtain ⟨e', h1, h2⟩ := ancOne_bit acc r p h
        exact ⟨e', .tail _ h1, h2⟩
theorem ancOk_ok (b : List Nat) : ∀ (r : List Nat) (ops : List Oper), ancOk b r ops = true → ∀ (i : Nat) (o : Oper), ops[i]? = some o → ∀ p, (r.getD i 0).testBit p = true → (ancOne b o.after.toList).testBit p = true
  | [], [], _, i, o, h, _, _ => by simp at h
  | [], _ :: _, h, _, _, _, _, _ => by simp [ancOk] at h
  | _ :: _, [], h, _, _, _, _, _ => by simp [ancOk] at h
  | a :: r, o :: ops, h, i, o', hi, p, hp => by
    simp only [ancOk, Bool.and_eq_true] at h
    cases i with
    | zero =>
      simp at hi hp
      subst hi
      have := Nat.eq_of_beq_eq_true h.1
      rw [← this]
      change (_ ||| a).testBit p = true
      rw [Nat.testBit_or, hp]; simp
    | succ i => exact ancOk_ok b r ops h.2 i o' (by simpa using hi) p (by simpa using hp)
/-- Ranks by which the edges that bind point backward. -/
def Ranked (md : Region.Mode) (n : Nat) (ops : List Oper) : Prop :=
  ∃ rk : Nat → Nat, ∀ (i : Nat) (o : Oper), ops[i]? = some o → ∀ e ∈ o.after, Region.binds md e = true → e.on < n ∧ rk e.on < rk i
theorem backM_ok (md : Region.Mode) : ∀ (ops : List Oper) (j : Nat), backM md j ops = true → ∀ (i : Nat) (o : Oper), ops[i]? = some o → ∀ e ∈ o.after, Region.binds md e = true → e.on < j + i
  | [], _, _, i, o, h, _, _, _ => by simp at h
  | o :: r, j, h, i, o', hi, e, he, hb => by
    simp only [backM, Bool.and_eq_true] at h
    cases i with
    | zero =>
      simp at hi
      subst hi
      have := List.all_eq_true.1 h.1 e (by simpa using he)
      rw [hb] at this
      exact blt_lt (by simpa using this)
    | succ i =>
      have := backM_ok md r (j + 1) h.2 i o' (by simpa using hi) e he hb
      omega
theorem rkOk_ok (md : Region.Mode) (n : Nat) (rk : List Nat) : ∀ (ops : List Oper) (j : Nat), rkOk md n rk j ops = true → ∀ (i : Nat) (o : Oper), ops[i]? = some o → ∀ e ∈ o.after, Region.binds md e = true → e.on < n ∧ rk.getD e.on 0 < rk.getD (j + i) 0
  | [], _, _, i, o, h, _, _, _ => by simp at h
  | o :: r, j, h, i, o', hi, e, he, hb => by
    simp only [rkOk, Bool.and_eq_true] at h
    cases i with
    | zero =>
      simp at hi
      subst hi
      have := List.all_eq_true.1 h.1 e (by simpa using he)
      rw [hb] at this
      simp only [Bool.not_true, Bool.false_or, Bool.and_eq_true] at this
      exact ⟨blt_lt this.1, blt_lt this.2⟩
    | succ i =>
      have := rkOk_ok md n rk r (j + 1) h.2 i o' (by simpa using hi) e he hb
      rw [show j + (i + 1) = j + 1 + i by omega]
      exact this
theorem backM_ranked {md : Region.Mode} {ops : List Oper} (h : backM md 0 ops = true) : Ranked md ops.length ops :=
  ⟨fun i => i, fun i o hi e he hb => by
    have := backM_ok md ops 0 h i o hi e he hb
    have h2 := (List.getElem?_eq_some_iff.1 hi).1
    exact ⟨by omega, by simpa using this⟩⟩
theorem backOk_ok {ops : List Oper} (h : backOk 0 ops = true) : ∀ md, Ranked md ops.length ops := by
  simp only [backOk, Bool.and_eq_true] at h
  have ht := backM_ranked h.1
  intro md
  cases md with
  | text => exact ht
  | any =>
    obtain ⟨rk, hrk⟩ := ht
    exact ⟨rk, fun i o hi e he hb => hrk i o hi e he (binds_any hb)⟩
  | gc =>
    cases h2 : backM .gc 0 ops with
    | true => exact backM_ranked h2
    | false =>
      have h3 := h.2
      rw [h2] at h3
      refine ⟨fun i => (rkOf .gc ops).getD i 0, fun i o hi e he hb => ?_⟩
      have := rkOk_ok .gc ops.length _ ops 0 h3 i o hi e he hb
      rw [Nat.zero_add] at this
      exact this
theorem least_of (rk : Nat → Nat) : ∀ (R : List Nat), R ≠ [] → ∃ i ∈ R, ∀ j ∈ R, rk i ≤ rk j
  | [], h => absurd rfl h
  | [i], _ => ⟨i, .head _, fun j hj => by simp at hj; subst hj; exact Nat.le_refl _⟩
  | i :: j :: R, _ => by
    obtain ⟨m, hm, h⟩ := least_of rk (j :: R) (by simp)
    by_cases e : rk i ≤ rk m
    · exact ⟨i, .head _, fun z hz => by
        rcases List.mem_cons.1 hz with rfl | hz
        · exact Nat.le_refl _
        · exact Nat.le_trans e (h z hz)⟩
    · exact ⟨m, .tail _ hm, fun z hz => by
        rcases List.mem_cons.1 hz with rfl | hz
        · omega
        · exact h z hz⟩

/-! ### Any order -/
theorem stepF_sound {X : Cx} {E : Env} {k : Nat} (hE : EnvOk X.P E k) {ops : Array Oper} {rid i : Nat} {L : List Nat × List Nat} {s s1 : FS} (h : StepF E k ops rid i L s s1) (hst : ∃ st : St, st.slot = s.sl) {outs : List CV} {a : Act} {w : World} {Q : Exit → Act → World → Prop} {K : Act → World → Prop}
    (hr : ∃ β D S Z, RelAt X β D S Z s.sl s.ob outs a w) (hd : ∀ (o : Oper) (t : Nat), ops[i]? = some o → o.dst = some t → t < X.n) (hK : ∀ a' w', (∃ β D S Z, RelAt X β D S Z s1.sl s1.ob outs a' w') → K a' w') : wpOp X.P ops Q i K a w ∧ ∃ st : St, st.slot = s1.sl := by
  obtain ⟨st, hst⟩ := hst
  obtain ⟨β, D, S, Z, hr⟩ := hr
  obtain ⟨o, ho, ⟨h1, rfl, rfl⟩ | ⟨h1, e, l, h2, h3, rfl, rfl⟩⟩ := h
  · refine ⟨?_, st.setSlot o.dst _, by rw [slot_setSlot, hst]⟩
    unfold wpOp
    rw [ho]
    simp only
    rw [if_neg (by rw [wanted_of hr h1]; simp)]
    exact hK _ _ ⟨β, D, S, Z, hr.slot (hd o · ho) rfl⟩
  · refine ⟨?_, st.setSlot o.dst _, by rw [slot_setSlot, hst]⟩
    unfold wpOp
    rw [ho]
    simp only
    rw [if_pos (wanted_of hr h1)]
    left
    have h4 := M.evL_ev _ _ _ h2
    rw [← hst, ← evalF_eq] at h4
    refine eff_sound hE.ty hE.eq hE.fn hr hst h4 _ Q fun v w' ⟨β', D', S', Z', h5, h6⟩ => hK _ _ ⟨β', D', S', Z', h5.slot (hd o · ho) h6⟩
theorem getD_tf {l : Array Bool} {i : Nat} (h : l.getD i true = false) : l.getD i false = false := by
  rw [Array.getD_eq_getD_getElem?] at h ⊢
  cases e : l[i]? with
  | none => rw [e] at h; simp at h
  | some b => rw [e] at h; simpa using h
theorem any_sound {X : Cx} {E : Env} {k : Nat} (hE : EnvOk X.P E k) {ops : Array Oper} {rid : Nat} {L : Nat → List Nat × List Nat} {b : List Nat} {md : Region.Mode} {outs : List CV} {Q : Exit → Act → World → Prop} {sf : FS}
    (hd : ∀ (i : Nat) (o : Oper) (t : Nat), ops[i]? = some o → o.dst = some t → t < X.n) (hanc : ancOk b b ops.toList = true) (hback : backOk 0 ops.toList = true) (hI : ∀ p q, p < q → q < ops.size → (b.getD q 0).testBit p = true ∨ Indep ops L p q)
    (hQ : ∀ a w, (∃ β D S Z, RelAt X β D S Z sf.sl sf.ob outs a w) → Q .normal a w) :
    ∀ (fuel : Nat) (listed : Array Bool) (R : List Nat) (s : FS) (a : Act) (w : World), R.length ≤ fuel → listed.size = ops.size → R.Pairwise (· < ·) → (∀ i, i ∈ R ↔ listed.getD i true = false) → (∀ q, listed.getD q false = true → ∀ p, (b.getD q 0).testBit p = true → listed.getD p false = true) →
      RunF E k ops rid L R s sf → (∃ st : St, st.slot = s.sl) → (∃ β D S Z, RelAt X β D S Z s.sl s.ob outs a w) → wpAny X.P md ops Q fuel listed a w := by
  have noR : ∀ (listed : Array Bool) (R : List Nat), listed.size = ops.size → R.Pairwise (· < ·) → (∀ i, i ∈ R ↔ listed.getD i true = false) → Region.ready md ops listed = [] → R = [] := fun listed R hsz hs hm hr => by
    obtain ⟨rk, hrk⟩ := backOk_ok hback md
    rw [Array.length_toList] at hrk
    refine Classical.byContradiction fun hne0 => ?_
    obtain ⟨i, hiR, hleast⟩ := least_of rk R hne0
    have hi := (hm i).1 hiR
    have hlt : i < ops.size := by
      rw [← hsz]
      rcases Nat.lt_or_ge i listed.size with h | h
      · exact h
      · rw [Array.getD_eq_getD_getElem?, Array.getElem?_eq_none h] at hi; simp at hi
    have ho : ops[i]? = some ops[i] := by simp [hlt]
    have : i ∈ Region.ready md ops listed := by
      rw [mem_ready]
      refine ⟨hi, _, ho, fun e he hb => ?_⟩
      obtain ⟨k1, k2⟩ := hrk i _ (by rw [Array.getElem?_toList]; exact ho) e he hb
      have hne : e.on ∉ R := fun h => by have := hleast _ h; omega
      have h1 : ¬ listed.getD e.on true = false := fun h => hne ((hm _).2 h)
      have h2 : e.on < listed.size := by omega
      rw [Array.getD_eq_getD_getElem?] at h1 ⊢
      simp [h2] at h1 ⊢
      exact h1
    rw [hr] at this; cases this
  intro fuel
  induction fuel with
  | zero =>
    intro listed R s a w hf hsz hs hm hinv hrun hst hr
    have hR : R = [] := List.length_eq_zero_iff.1 (by omega)
    subst hR
    cases hrun
    refine ⟨?_, hQ a w hr⟩
    cases hrd : Region.ready md ops listed with
    | nil => rfl
    | cons x xs =>
      have : x ∈ Region.ready md ops listed := by rw [hrd]; exact .head _
      exact absurd ((hm x).2 (mem_ready.1 this).1) (by simp)
  | succ fuel ih =>
    intro listed R s a w hf hsz hs hm hinv hrun hst hr
    refine ⟨fun h => ?_, fun i hi => ?_⟩
    · have := noR listed R hsz hs hm h
      subst this
      cases hrun
      exact hQ a w hr
    · obtain ⟨h1, o, ho, h2⟩ := mem_ready.1 hi
      have hiR := (hm i).2 h1
      obtain ⟨pre, post, rfl⟩ := List.append_of_mem hiR
      have hlt : i < ops.size := (Array.getElem?_eq_some_iff.1 ho).1
      have hsp := List.pairwise_append.1 hs
      have hsp2 := List.pairwise_cons.1 hsp.2.1
      have hbits : ∀ p, (b.getD i 0).testBit p = true → listed.getD p false = true := fun p hp => by
        obtain ⟨e, he, hb, h3⟩ := ancOne_bit b _ p (ancOk_ok b b ops.toList hanc i o (by rw [Array.getElem?_toList]; exact ho) p hp)
        have h4 := h2 e (by simpa using he) (binds_any hb)
        rcases h3 with rfl | h3
        · exact h4
        · exact hinv e.on h4 p h3
      have hind : ∀ p ∈ pre, Indep ops L p i := fun p hp => by
        rcases hI p i (hsp.2.2 p hp i (.head _)) hlt with h3 | h3
        · have := getD_tf ((hm p).1 (List.mem_append.2 (.inl hp)))
          rw [hbits p h3] at this; cases this
        · exact h3
      obtain ⟨s1, hs1, hrun1⟩ := bubble pre post s sf hrun hind
      refine (stepF_sound hE hs1 hst hr (fun o t => hd i o t) fun a' w' hr' => ?_).1
      refine ih (listed.setIfInBounds i true) (pre ++ post) s1 a' w' ?_ (by simpa using hsz) ?_ (fun z => ?_) (fun q hq p hp => ?_) hrun1 (stepF_sound (Q := Q) (K := fun _ _ => True) hE hs1 hst hr (fun o t => hd i o t) fun _ _ _ => trivial).2 hr'
      · simp at hf ⊢; omega
      · exact List.pairwise_append.2 ⟨hsp.1, hsp2.2, fun x hx y hy => hsp.2.2 x hx y (.tail _ hy)⟩
      · have h3 := hm z
        by_cases e : z = i
        · subst e
          have h4 : z ∉ pre ++ post := fun h => by
            rcases List.mem_append.1 h with h | h
            · have := hsp.2.2 z h z (.head _); omega
            · have := hsp2.1 z h; omega
          have h5 : (listed.setIfInBounds z true).getD z true = true := by
            rw [Array.getD_eq_getD_getElem?, Array.getElem?_setIfInBounds_self]; split <;> rfl
          rw [h5]
          exact ⟨fun h => absurd h h4, fun h => by cases h⟩
        · rw [getD_set_ne true (fun h => e h.symm), ← h3]
          simp [e]
      · by_cases e : q = i
        · subst e; exact getD_set_true (hbits p hp)
        · rw [getD_set_ne false (fun h => e h.symm)] at hq
          exact getD_set_true (hinv q hq p hp)
theorem schedule_mode (m : Bool) (ops : Array Oper) (t : Nat) : ∃ md t', Region.schedule m ops t = Region.linearise md ops t' := by
  unfold Region.schedule
  split
  · exact ⟨_, _, rfl⟩
  · exact ⟨_, _, rfl⟩
theorem runOpsL_sound {X : Cx} {E : Env} {k : Nat} (hE : EnvOk X.P E k) {ρ : Type} {ops : Array Oper} {rid : Nat} {Q : Exit → Act → World → Prop} {y : ρ} {st : St} {C : St → List (Nat × List Nat × List Nat) → Option ρ} {a : Act} {w : World} (h : runOpsL E k ops.toList rid 0 ops.toList st [] C = some y) (hr : Rel X st a w)
    (hd : ∀ o ∈ ops.toList, ∀ t, o.dst = some t → t < X.n) (hC : ∀ st' lg, C st' lg = some y → ∃ b, backOk 0 ops.toList = true ∧ ancOk b b ops.toList = true ∧ apartLog b lg = true ∧ apartTmps b ops.toList 0 [] ops.toList = true)
    (hQ : ∀ st' lg a' w', Rel X st' a' w' → C st' lg = some y → Q .normal a' w') : (Code.region rid ops true).wp X.P Q a w := by
  refine wp_region_draw fun t => ?_
  obtain ⟨L, st', lg, _, h1, h2, h3, h4⟩ := runOpsL_run ops.toList 0 st [] C (fun _ => ([], [])) h (fun j => by rw [Nat.zero_add, Array.getElem?_toList]) rfl
  obtain ⟨b, k1, k2, k3, k4⟩ := hC st' lg h4
  obtain ⟨md, t', e⟩ := schedule_mode (X.P.follows .mixedOrders) ops t
  rw [e]
  obtain ⟨β, D, S, Z, hra⟩ := hr
  rw [Nat.zero_add] at h3
  have hlog := (apartLog_ok ops.toList.length lg h3 k3).1
  refine wpAny_sound ops.size t' _ a _ (any_sound (L := L) (b := b) (sf := ⟨st'.slot, st'.ob⟩) (outs := st.outs) hE (fun i o t hi ht => hd o (List.mem_of_getElem? (i := i) (by rw [Array.getElem?_toList]; exact hi)) t ht) k2 k1 (fun p q hp hq => ?_) (fun a' w' hr' => ?_) ops.size _ (List.range' 0 ops.toList.length) ⟨st.slot, st.ob⟩ a _ (by simp) (by simp) (List.pairwise_lt_range') (fun i => ?_) (fun q hq => ?_) h1 ⟨st, rfl⟩ ⟨β, D, S, Z, hra.world (Agr.drew _ _)⟩)
  · rcases hlog p q hp (by simpa using hq) with h5 | h5
    · exact .inl h5
    · have hp' : p < ops.size := by omega
      rcases apartTmps_ok ops.toList 0 [] k4 (fun i => by rw [Nat.zero_add]) (fun p o hp => by omega) p q hp (by omega) ops[p] ops[q] (by simp [hp']) (by simp [hq]) with h6 | h6
      · exact .inl h6
      · refine .inr ⟨h5.1, h5.2, fun oi oj hi hj => ?_⟩
        have e1 : oi = ops[p] := by rw [Array.getElem?_eq_getElem hp'] at hi; exact (Option.some.inj hi).symm
        have e2 : oj = ops[q] := by rw [Array.getElem?_eq_getElem hq] at hj; exact (Option.some.inj hj).symm
        rw [e1, e2]; exact h6
  · obtain ⟨β', D', S', Z', hr'⟩ := hr'
    exact hQ st' lg a' w' ⟨β', D', S', Z', by rw [h2]; exact hr'⟩ h4
  · rw [Array.getD_eq_getD_getElem?, List.mem_range'_1]
    by_cases hi : i < ops.size
    · simp [hi]
    · simp [hi]
  · rw [Array.getD_eq_getD_getElem?] at hq
    by_cases hi : q < ops.size
    · simp [hi] at hq
    · simp [hi] at hq
end Go.Dn
/- States laid anew: fewer temporaries, objects numbered anew, nils as rows. -/
set_option linter.unusedVariables false
namespace Go.Dn

theorem look_only {α : Type} (d : α) (l : List Nat) : ∀ (r : List (Nat × α)) (i : Nat), look d (onlyN l r) i = look d r i ∨ look d (onlyN l r) i = d
  | [], i => .inl rfl
  | x :: r, i => by
    simp only [onlyN]
    cases hm : memN x.1 l with
    | true =>
      simp only [cond_true, look]
      cases hb : Nat.beq x.1 i with
      | true => exact .inl rfl
      | false => exact look_only d l r i
    | false =>
      simp only [cond_false, look]
      cases hb : Nat.beq x.1 i with
      | true =>
        right
        have e := Nat.eq_of_beq_eq_true hb
        subst e
        have : ∀ r : List (Nat × α), look d (onlyN l r) x.1 = d := by
          intro r
          induction r with
          | nil => rfl
          | cons y r ih =>
            simp only [onlyN]
            cases hy : memN y.1 l with
            | true =>
              simp only [cond_true, look]
              cases hb2 : Nat.beq y.1 x.1 with
              | true => rw [Nat.eq_of_beq_eq_true hb2, hm] at hy; cases hy
              | false => exact ih
            | false => exact ih
        exact this r
      | false => exact look_only d l r i
theorem RelAt.slots' {X : Cx} {β : Nat → Pl} {D : Nat → Prop} {S : Nat → CS} {Z : CS} {sl sl' : Nat → DV} {ob : Nat → OB} {outs : List CV} {a : Act} {w : World} (h : RelAt X β D S Z sl ob outs a w) (hs : ∀ t, DR (VR X β D Z w) (sl' t) (a.tmps.getD t undef)) : RelAt X β D S Z sl' ob outs a w :=
  { h with slots := hs }
theorem Rel.only {X : Cx} {st : St} {a : Act} {w : World} (h : Rel X st a w) (l : List Nat) : Rel X ⟨onlyN l st.slots, st.objs, st.outs⟩ a w := by
  obtain ⟨β, D, S, Z, h⟩ := h
  refine ⟨β, D, S, Z, h.slots' fun t => ?_⟩
  rcases look_only (.v false [.und]) l st.slots t with e | e
  · show DR _ (look _ (onlyN l st.slots) t) _
    rw [e]; exact h.slots t
  · show DR _ (look _ (onlyN l st.slots) t) _
    rw [e]; trivial

/-! ### Nils -/
theorem nilCell_sound {X : Cx} {β : Nat → Pl} {D : Nat → Prop} {S : Nat → CS} {Z : CS} {sl : Nat → DV} {outs : List CV} {a : Act} {w : World} {st : St} (hr : RelAt X β D S Z sl st.ob outs a w) {id : Nat} {κ : NilK} {c : CV} {x : CV × List (Nat × OB)} (h : nilCell st id κ c = some x) {v : Value} (hv : VR X β D Z w c v) :
    ∃ β' D' S' Z', RelAt X β' D' S' Z' sl (updAll st.ob x.2) outs a w ∧ VR X β' D' Z' w x.1 v ∧ (∀ o, D o → D' o ∧ β' o = β o) ∧ ∀ z ∈ x.2, z.1 = id ∧ st.ob id = .non ∨ ∃ e d f l, st.ob z.1 = .arr e d f l := by
  unfold nilCell at h
  split at h
  · rename_i e
    split at h
    · rename_i ho
      cases h
      obtain ⟨A, rfl⟩ := hv
      refine ⟨_, _, _, Z, hr.new id ho ⟨0, 0, A, 0, 0, e.n⟩ (.arr e true false []) (by simp) CS.no (CS.no_le _) (fun _ _ t => t.elim) (CS.no_apart _) (fun _ _ => CS.no_apart _) ?_, ⟨.inr rfl, by rw [upd_same]⟩, fun o d => ⟨.inl d, upd_ne _ _ fun e => hr.dom o d (e ▸ ho)⟩, fun z hz => ?_⟩
      · show _ ∧ _ ∧ _
        rw [upd_same]
        exact ⟨rfl, rfl, .inl ⟨rfl, rfl⟩⟩
      · rw [List.mem_singleton.1 hz]; exact .inl ⟨rfl, ho⟩
    · cases h
  · rename_i e
    cases h
    obtain ⟨A, rfl⟩ := hv
    exact ⟨β, D, S, Z, hr, ⟨A, 0, rfl, Nat.le_refl _, fun h => absurd h (Nat.lt_irrefl _)⟩, fun o d => ⟨d, rfl⟩, fun z hz => (by cases hz)⟩
  · rename_i o
    split at h
    · rename_i e d f l ho
      cases h
      obtain ⟨hD, hv⟩ := hv
      have hob := hr.objs o
      rw [ho] at hob
      obtain ⟨h1, h2, h3⟩ := hob.lens
      refine ⟨β, D, S, Z, hr, ⟨hD, (β o).A, (β o).c, ?_, by omega, by omega, by omega, by omega, by simp, .inr ?_⟩, fun o d => ⟨d, rfl⟩, fun z hz => (by cases hz)⟩
      · rw [hv, ← h1]; simp
      · cases (β o).A <;> simp [Addr.add]
    · cases h
  · rename_i o
    split at h
    · rename_i e d l ho
      cases h
      obtain ⟨hD, hv⟩ := hv
      have hob := hr.objs o
      rw [ho] at hob
      obtain ⟨h1, h2, h3⟩ := hob
      obtain ⟨T, N, h6, h7, h8, h9⟩ := OwnSl.weaken h3
      refine ⟨β, D, _, _, hr.set o (.arr e false false l) (by simp) CS.no T (Z.or N) (CS.no_le _) (Agr.refl _ _) h6 (CS.le_l _ _) (fun b j z => z.imp (fun h => h) (h7 b j)) (CS.apart_or ((hr.sz o).mono h6 (CS.le.refl _)) h8) ⟨h1, h2, h9⟩, ⟨hD, hv⟩, fun o d => ⟨d, rfl⟩, fun z hz => ?_⟩
      rw [List.mem_singleton.1 hz]; exact .inr ⟨e, d, false, l, ho⟩
    · cases h
  · rename_i o
    split at h
    · rename_i e l ho
      cases h
      obtain ⟨hD, hv⟩ := hv
      have hob := hr.objs o
      rw [ho] at hob
      obtain ⟨h1, h2, h3⟩ := hob
      refine ⟨β, D, _, _, hr.set o (.par e l 0) (by simp) CS.no (S o) Z (CS.no_le _) (Agr.refl _ _) (CS.le.refl _) (CS.le.refl _) (fun b j z => .inl z) (hr.sz o) ⟨h1, h2, Int.le_refl _, h3.imp (CS.le.refl _) fun vs S1 _ => HL.ofFlags l vs S1⟩, ⟨hD, hv⟩, fun o d => ⟨d, rfl⟩, fun z hz => ?_⟩
      rw [List.mem_singleton.1 hz]; exact .inr ⟨e, false, false, l, ho⟩
    · cases h
  · rename_i o
    split at h
    · rename_i e d l ho
      cases h
      obtain ⟨hD, hv⟩ := hv
      have hob := hr.objs o
      rw [ho] at hob
      have hfz := OR.freeze hob
      refine ⟨β, D, _, _, hr.set o (.arr e d true l) (by simp) CS.no CS.no (Z.or (S o)) (CS.no_le _) (Agr.refl _ _) (CS.no_le _) (CS.le_l _ _) (fun b j z => z) (CS.no_apart _) hfz, ?_, fun o d => ⟨d, rfl⟩, fun z hz => ?_⟩
      · obtain ⟨h1, h2, h3, h4⟩ := hfz
        refine ⟨(β o).A, (β o).c, by rw [hv, h1], by omega, ?_⟩
        rw [h1]; exact h4
      · rw [List.mem_singleton.1 hz]; exact .inr ⟨e, d, false, l, ho⟩
    · cases h
  · cases h
theorem Rel.nilOne {X : Cx} {st : St} {a : Act} {w : World} (h : Rel X st a w) (id : Nat) (n : NilAt) : Rel X (Dn.nilOne st id n) a w := by
  unfold Dn.nilOne
  split
  · rename_i c hj hs
    split
    · rename_i x hx
      obtain ⟨β, D, S, Z, hr⟩ := h
      have hv := hr.slots n.t
      rw [hs] at hv
      have hc : c = .nil ∨ ∃ o, c = .arr o := by
        unfold nilCell at hx
        split at hx <;> first | exact .inl rfl | exact .inr ⟨_, rfl⟩ | cases hx
      have hv : VR X β D Z w c (a.tmps.getD n.t undef) := by
        rcases hc with rfl | ⟨o, rfl⟩ <;> exact hv
      obtain ⟨β', D', S', Z', k1, k2, k3, _⟩ := nilCell_sound hr hx hv
      have hx1 : DR (VR X β' D' Z' w) (.v false [x.1]) (a.tmps.getD n.t undef) := by
        generalize x.1 = y at k2
        cases y <;> first | exact k2 | trivial | exact (k2 : False).elim
      have e1 : ({ st with slots := put st.slots n.t (.v false [x.1]), objs := putAll st.objs x.2 } : St).ob = updAll st.ob x.2 := look_putAll _ _ _
      have e2 : ({ st with slots := put st.slots n.t (.v false [x.1]), objs := putAll st.objs x.2 } : St).slot = upd st.slot n.t (.v false [x.1]) := look_put _ _ _ _
      refine ⟨β', D', S', Z', ?_⟩
      rw [e1, e2]
      refine k1.slots' fun t => ?_
      by_cases e : t = n.t
      · subst e; rw [upd_same]; exact hx1
      · rw [upd_ne _ _ e]; exact k1.slots t
    · exact h
  · rename_i j o hj hs
    split
    · rename_i cs ho
      split
      · rename_i c hc
        split
        · rename_i x hx
          obtain ⟨β, D, S, Z, hr⟩ := h
          have hob := hr.objs o
          rw [ho] at hob
          obtain ⟨m1, v, m2, m3⟩ := hob j c hc
          obtain ⟨β', D', S', Z', k1, k2, k3, k4⟩ := nilCell_sound hr hx m3
          have hv := hr.slots n.t
          rw [hs] at hv
          obtain ⟨hDo, _⟩ := hv
          have hno : ∀ z ∈ x.2, z.1 ≠ o := fun z hz e => by
            rcases k4 z hz with ⟨h1, h2⟩ | ⟨_, _, _, _, h2⟩
            · rw [← h1, e, ho] at h2; cases h2
            · rw [e, ho] at h2; cases h2
          have e1 : ({ st with objs := putAll (put st.objs o (.box (splice cs j [x.1]))) x.2 } : St).ob = upd (updAll st.ob x.2) o (.box (splice cs j [x.1])) := by
            show look _ (putAll (put st.objs o _) x.2) = _
            rw [look_putAll, look_put]
            exact upd_updAll _ _ _ _ hno
          have ho' : updAll st.ob x.2 o = .box cs := by rw [updAll_out _ _ _ hno]; exact ho
          have hob' := k1.objs o
          rw [ho'] at hob'
          have hlt : j < cs.length := (List.getElem?_eq_some_iff.1 hc).1
          refine ⟨β', D', upd S' o (S' o), Z', ?_⟩
          rw [e1]
          refine k1.set o _ (by simp) CS.no (S' o) Z' (CS.no_le _) (Agr.refl _ _) (CS.le.refl _) (CS.le.refl _) (fun b j z => .inl z) (k1.sz o) ?_
          intro i c' hi
          rw [splice_get _ _ _ _ (by simp; omega)] at hi
          split at hi
          · rename_i hin
            have hij : i = j := by simp at hin; omega
            subst hij
            simp at hi
            subst hi
            obtain ⟨q1, _, q2, _⟩ := hob' i c hc
            refine ⟨q1, v, ?_, k2⟩
            obtain ⟨_, hb⟩ := k3 o hDo
            rw [hb]; exact m2
          · exact hob' i c' hi
        · exact h
      · exact h
    · exact h
  · exact h
theorem Rel.nilAll {X : Cx} {a : Act} {w : World} : ∀ (l : List NilAt) (id : Nat) (st : St), Rel X st a w → Rel X (Dn.nilAll l id st) a w
  | [], _, _, h => h
  | n :: r, id, st, h => Rel.nilAll r (id + 2) _ (h.nilOne id n)

/-! ### Objects numbered anew -/
theorem idxN_some : ∀ (l : List Nat) (o i k : Nat), idxN o l i = some k → ∃ j, k = i + 2 * j ∧ l[j]? = some o
  | [], o, i, k, h => by cases h
  | x :: r, o, i, k, h => by
    simp only [idxN] at h
    cases hb : Nat.beq x o with
    | true =>
      rw [hb] at h
      simp at h
      exact ⟨0, by omega, by simp [Nat.eq_of_beq_eq_true hb]⟩
    | false =>
      rw [hb] at h
      obtain ⟨j, h1, h2⟩ := idxN_some r o (i + 2) k h
      exact ⟨j + 1, by omega, by simpa using h2⟩
theorem reach_nodup (ob : Nat → OB) : ∀ (n : Nat) (todo seen : List Nat), seen.Nodup → (reach ob n todo seen).Nodup
  | 0, _, _, h => h
  | n + 1, [], seen, h => h
  | n + 1, o :: todo, seen, h => by
    simp only [reach]
    cases hm : memN o seen with
    | true => exact reach_nodup ob n todo seen h
    | false =>
      simp only [cond_false]
      cases hl : liveOB (ob o) with
      | true =>
        refine reach_nodup ob n _ _ (List.nodup_append.2 ⟨h, by simp, fun a ha b hb e => ?_⟩)
        rw [List.mem_singleton.1 hb] at e
        rw [(memN_iff seen o).2 (e ▸ ha)] at hm; cases hm
      | false => exact reach_nodup ob n todo seen h
theorem renAll_look (ob : Nat → OB) (seen : List Nat) : ∀ (l : List Nat) (i k : Nat), (∃ j o, k = i + 2 * j ∧ l[j]? = some o ∧ look .non (renAll ob seen l i) k = renOB seen (ob o)) ∨ ((∀ j, k = i + 2 * j → l.length ≤ j) ∧ look .non (renAll ob seen l i) k = .non)
  | [], i, k => .inr ⟨fun j _ => Nat.zero_le _, rfl⟩
  | x :: r, i, k => by
    simp only [renAll, look]
    cases hb : Nat.beq i k with
    | true => exact .inl ⟨0, x, by have := Nat.eq_of_beq_eq_true hb; omega, rfl, rfl⟩
    | false =>
      rcases renAll_look ob seen r (i + 2) k with ⟨j, o, h1, h2, h3⟩ | ⟨h1, h2⟩
      · exact .inl ⟨j + 1, o, by omega, by simpa using h2, h3⟩
      · refine .inr ⟨fun j hj => ?_, h2⟩
        cases j with
        | zero => rw [show i = k by omega, beq_self] at hb; cases hb
        | succ j => have := h1 j (by omega); simp; omega
theorem look_mapSlots (f : Nat → DV) (g : DV → DV) : ∀ (l : List Nat) (t : Nat), look (.v false [.und]) (l.map fun t => (t, g (f t))) t = g (f t) ∨ look (.v false [.und]) (l.map fun t => (t, g (f t))) t = .v false [.und]
  | [], t => .inr rfl
  | x :: l, t => by
    simp only [List.map_cons, look]
    cases hb : Nat.beq x t with
    | true => rw [Nat.eq_of_beq_eq_true hb]; exact .inl rfl
    | false => exact look_mapSlots f g l t
section
variable {X : Cx} {β : Nat → Pl} {D : Nat → Prop} {S : Nat → CS} {Z : CS} {w : World}
def newB (β : Nat → Pl) (seen : List Nat) : Nat → Pl := fun i => β (seen.getD (i / 2) 0)
def newD (D : Nat → Prop) (seen : List Nat) : Nat → Prop := fun i => ∃ j o, i = 2 * j ∧ seen[j]? = some o ∧ D o
def newS (S : Nat → CS) (seen : List Nat) : Nat → CS := fun i b j => ∃ k o, i = 2 * k ∧ seen[k]? = some o ∧ S o b j
theorem newB_at {β : Nat → Pl} {seen : List Nat} {j o : Nat} (h : seen[j]? = some o) : newB β seen (2 * j) = β o := by
  unfold newB
  rw [Nat.mul_div_cancel_left _ (by decide : 0 < 2), List.getD_eq_getElem?_getD, h]; rfl
theorem idx_new {seen : List Nat} {o i : Nat} (h : idxN o seen 0 = some i) (hd : D o) : newD D seen i ∧ newB β seen i = β o := by
  obtain ⟨j, h1, h2⟩ := idxN_some seen o 0 i h
  rw [Nat.zero_add] at h1
  subst h1
  exact ⟨⟨j, o, rfl, h2, hd⟩, newB_at h2⟩
theorem renCaps_new {seen : List Nat} : ∀ (caps l : List (Nat × Nat)), renCaps seen caps = some l → (∀ c ∈ caps, D c.1) → (∀ c ∈ l, newD D seen c.1) ∧ l.map (fun c => Value.pointer (some ⟨(newB β seen c.1).b, (newB β seen c.1).j + c.2, none⟩)) = caps.map fun c => Value.pointer (some ⟨(β c.1).b, (β c.1).j + c.2, none⟩)
  | [], l, h, _ => by cases h; exact ⟨fun c hc => (by cases hc), rfl⟩
  | (o, j) :: r, l, h, hD => by
    simp only [renCaps] at h
    split at h
    · rename_i i l' h1 h2
      cases h
      obtain ⟨k1, k2⟩ := renCaps_new r l' h2 fun c hc => hD c (.tail _ hc)
      obtain ⟨k3, k4⟩ := idx_new (β := β) h1 (hD (o, j) (.head _))
      refine ⟨fun c hc => ?_, ?_⟩
      · rcases List.mem_cons.1 hc with rfl | hc
        · exact k3
        · exact k1 c hc
      · simp only [List.map_cons, k2, k4]
    · cases h
theorem VR.ren {seen : List Nat} {c : CV} {v : Value} (h : VR X β D Z w c v) : VR X (newB β seen) (newD D seen) Z w (renCV seen c) v := by
  have h1 := h.one
  cases c <;> simp only [renCV]
  case arr o =>
    split
    · rename_i i hi
      obtain ⟨k1, k2⟩ := idx_new (β := β) hi h.1
      exact ⟨k1, by rw [k2]; exact h.2⟩
    · exact h1
  case sub o off len =>
    split
    · rename_i i hi
      obtain ⟨k1, k2⟩ := idx_new (β := β) hi h.1
      refine ⟨k1, ?_⟩
      rw [k2]; exact h.2
    · exact h1
  case box o j =>
    split
    · rename_i i hi
      obtain ⟨k1, k2⟩ := idx_new (β := β) hi h.1
      exact ⟨k1, by rw [k2]; exact h.2⟩
    · exact h1
  case el o n j =>
    split
    · rename_i i hi
      obtain ⟨k1, k2⟩ := idx_new (β := β) hi h.1
      refine ⟨k1, ?_⟩
      rw [k2]; exact h.2
    · exact h1
  case inn => exact (h : False).elim
  case iel => exact (h : False).elim
  case clo f caps =>
    split
    · rename_i l hl
      obtain ⟨k1, k2⟩ := renCaps_new (β := β) caps l hl h.2
      exact ⟨by rw [h.1, k2], k1⟩
    · exact h1
  all_goals exact h
theorem all2_ren {seen : List Nat} : ∀ (cs : List CV) (us : List Value), All2 (VR X β D Z w) cs us → All2 (VR X (newB β seen) (newD D seen) Z w) (cs.map (renCV seen)) us
  | [], [], _ => trivial
  | [], _ :: _, h => h
  | c :: cs, [], h => (h : False).elim
  | c :: cs, u :: us, ⟨h1, h2⟩ => ⟨h1.ren, all2_ren cs us h2⟩
theorem DR.ren {seen : List Nat} {d : DV} {v : Value} (h : DR (VR X β D Z w) d v) : DR (VR X (newB β seen) (newD D seen) Z w) (renDV seen d) v := by
  cases d with
  | tup ds => trivial
  | v b cs =>
    cases b with
    | true => obtain ⟨us, h1, h2⟩ := h; exact ⟨us, h1, all2_ren cs _ h2⟩
    | false =>
      match cs, h with
      | [], h => exact (h : False).elim
      | _ :: _ :: _, h => simp [DR, DR1] at h
      | [c], h =>
        by_cases h1 : c = .und
        · subst h1; trivial
        · by_cases h2 : c = .skip
          · subst h2; exact h
          · have hv : VR X β D Z w c v := by cases c <;> first | exact h | exact absurd rfl h1 | exact absurd rfl h2
            have := hv.ren (seen := seen)
            show DR _ (.v false [renCV seen c]) v
            generalize renCV seen c = c' at this
            cases c' <;> first | exact this | trivial | exact (this : False).elim
end
theorem Rel.canon {X : Cx} {st : St} {a : Act} {w : World} (h : Rel X st a w) (hd : Hd) : Rel X (Dn.canon hd st) a w := by
  have h0 := Rel.nilAll hd.nils 1000000001 st h
  unfold Dn.canon
  generalize Dn.nilAll hd.nils 1000000001 st = st1 at h0
  simp only
  generalize hseen : reach st1.ob 400 _ [] = seen
  have hnd : seen.Nodup := by rw [← hseen]; exact reach_nodup _ _ _ _ .nil
  obtain ⟨β, D, S, Z, hr⟩ := h0
  have hinj : ∀ j j' o, seen[j]? = some o → seen[j']? = some o → j = j' := fun j j' o h1 h2 => by
    have hj := (List.getElem?_eq_some_iff.1 h1).1
    exact (List.getElem?_inj hj hnd).1 (h1.trans h2.symm)
  refine ⟨newB β seen, newD D seen, newS S seen, Z, ?_⟩
  constructor
  · exact hr.size
  · exact hr.defers
  · intro t
    show DR _ (look _ ((hd.keep.map fun t => (t, st1.slot t)).map fun x => (x.1, renDV seen x.2)) t) _
    rw [List.map_map]
    rcases look_mapSlots st1.slot (renDV seen) hd.keep t with e | e
    · have : look (.v false [.und]) (hd.keep.map ((fun x => (x.1, renDV seen x.2)) ∘ fun t => (t, st1.slot t))) t = renDV seen (st1.slot t) := e
      rw [this]; exact (hr.slots t).ren
    · have : look (.v false [.und]) (hd.keep.map ((fun x => (x.1, renDV seen x.2)) ∘ fun t => (t, st1.slot t))) t = .v false [.und] := e
      rw [this]; trivial
  · intro i
    show OR _ _ _ _ _ i _ (look .non (renAll st1.ob seen seen 0) i)
    rcases renAll_look st1.ob seen seen 0 i with ⟨j, o, h1, h2, h3⟩ | ⟨_, h3⟩
    · rw [h3]
      rw [Nat.zero_add] at h1
      subst h1
      have hob := hr.objs o
      have hS : ∀ b k, S o b k → newS S seen (2 * j) b k := fun b k s => ⟨j, o, rfl, h2, s⟩
      generalize st1.ob o = b at hob
      cases b with
      | box cs =>
        intro k c hk
        rw [List.getElem?_map] at hk
        cases hc : cs[k]? with
        | none => rw [hc] at hk; cases hk
        | some c0 =>
          rw [hc] at hk
          cases hk
          obtain ⟨q1, v, q2, q3⟩ := hob k c0 hc
          rw [newB_at h2]
          exact ⟨hS _ _ q1, v, q2, q3.ren⟩
      | arr e d fr l =>
        cases fr with
        | false =>
          show _ ∧ _ ∧ _
          rw [newB_at h2]
          exact ⟨hob.1, hob.2.1, hob.2.2.imp (fun b k s => hS b k s) fun _ _ _ h => h⟩
        | true =>
          show _ ∧ _ ∧ _ ∧ _
          rw [newB_at h2]
          exact hob
      | hole => trivial
      | par e l m =>
        show _ ∧ _ ∧ _ ∧ _
        rw [newB_at h2]
        exact ⟨hob.1, hob.2.1, hob.2.2.1, hob.2.2.2.imp (fun b k s => hS b k s) fun _ _ _ h => h⟩
      | non => trivial
      | dead => trivial
    · rw [h3]; trivial
  · exact all2_ren _ _ hr.outs
  · rintro i ⟨j, o, rfl, h2, hDo⟩
    show look .non (renAll st1.ob seen seen 0) (2 * j) ≠ .non
    rcases renAll_look st1.ob seen seen 0 (2 * j) with ⟨j', o', h1, h3, h4⟩ | ⟨h1, _⟩
    · rw [h4]
      have : j' = j := by omega
      subst this
      rw [h2] at h3
      cases h3
      have := hr.dom o hDo
      generalize st1.ob o = b at this
      cases b <;> simp_all [renOB]
    · have := h1 j (by omega)
      have := (List.getElem?_eq_some_iff.1 h2).1
      omega
  · rintro i i' hne b k ⟨j, o, rfl, h2, s⟩ ⟨j', o', rfl, h2', s'⟩
    refine hr.apart o o' (fun e => ?_) b k s s'
    subst e
    exact hne (by rw [hinj j j' o h2 h2'])
  · rintro i b k ⟨j, o, rfl, h2, s⟩ z
    exact hr.sz o b k s z
  · intro i
    exact ⟨fun b k ⟨j, o, _, _, s⟩ => (hr.sin o).1 b k s, fun b k ⟨j, o, _, _, s⟩ => (hr.sin o).2 b k s⟩
  · exact hr.zin
  · exact hr.zbd
  · exact hr.z0
  · exact hr.agr
end Go.Dn
/- A function's code, with its loops. -/
set_option linter.unusedVariables false
namespace Go.Dn

/-! ### States of a shape are told by their leaves -/
theorem eqK_ok {a b : K} (h : eqK a b = true) : a = b := by
  unfold eqK at h
  split at h
  · assumption
  · cases h
theorem eqI_ok {a b : IntKind} (h : eqI a b = true) : a = b := by
  unfold eqI at h
  split at h
  · assumption
  · cases h
theorem eqB_ok {a b : Bool} (h : eqB a b = true) : a = b := by cases a <;> cases b <;> first | rfl | cases h
theorem shCaps_eq : ∀ (s a b : List (Nat × Nat)), shCaps s a = true → shCaps s b = true → a = b
  | [], [], [], _, _ => rfl
  | [], _ :: _, _, h, _ => by cases h
  | [], [], _ :: _, _, h => by cases h
  | _ :: _, [], _, h, _ => by cases h
  | _ :: _, _ :: _, [], _, h => by cases h
  | x :: s, y :: a, z :: b, h, h' => by
    simp only [shCaps, Bool.and_eq_true] at h h'
    have e1 := (Nat.eq_of_beq_eq_true h.1).symm.trans (Nat.eq_of_beq_eq_true h'.1)
    have e2 := (Nat.eq_of_beq_eq_true h.2.1).symm.trans (Nat.eq_of_beq_eq_true h'.2.1)
    rw [shCaps_eq s a b h.2.2 h'.2.2, Prod.ext e1 e2]
theorem shCV_eq {s a b : CV} (h : shCV s a = true) (h' : shCV s b = true) : (leavesCV a).length = (leavesCV b).length ∧ (leavesCV a = leavesCV b → a = b) := by
  cases s <;> cases a <;> first | (cases h; done) | (cases b <;> first | (cases h'; done) | skip)
  all_goals simp only [shCV, Bool.and_eq_true] at h h'
  case und.und.und => exact ⟨rfl, fun _ => rfl⟩
  case skip.skip.skip => exact ⟨rfl, fun _ => rfl⟩
  case int.int.int =>
    have e := (eqI_ok h).symm.trans (eqI_ok h')
    subst e
    exact ⟨rfl, fun h => by simp [leavesCV] at h; rw [h]⟩
  case bool.bool.bool => exact ⟨rfl, fun h => by simp [leavesCV] at h; rw [h]⟩
  case str.str.str => exact ⟨rfl, fun h => by simp [leavesCV] at h; rw [h]⟩
  case nil.nil.nil => exact ⟨rfl, fun _ => rfl⟩
  case fz.fz.fz =>
    have e := (eqK_ok h).symm.trans (eqK_ok h')
    subst e
    exact ⟨rfl, fun h => by simp [leavesCV] at h; rw [h]⟩
  case arr.arr.arr =>
    have e := (Nat.eq_of_beq_eq_true h).symm.trans (Nat.eq_of_beq_eq_true h')
    subst e
    exact ⟨rfl, fun _ => rfl⟩
  case sub.sub.sub =>
    have e := (Nat.eq_of_beq_eq_true h).symm.trans (Nat.eq_of_beq_eq_true h')
    subst e
    exact ⟨rfl, fun h => by simp [leavesCV] at h; rw [h.1, h.2]⟩
  case box.box.box =>
    have e := (Nat.eq_of_beq_eq_true h.1).symm.trans (Nat.eq_of_beq_eq_true h'.1)
    have e2 := (Nat.eq_of_beq_eq_true h.2).symm.trans (Nat.eq_of_beq_eq_true h'.2)
    subst e; subst e2
    exact ⟨rfl, fun _ => rfl⟩
  case el.el.el =>
    have e := (Nat.eq_of_beq_eq_true h.1).symm.trans (Nat.eq_of_beq_eq_true h'.1)
    have e2 := (Nat.eq_of_beq_eq_true h.2).symm.trans (Nat.eq_of_beq_eq_true h'.2)
    subst e; subst e2
    exact ⟨rfl, fun h => by simp [leavesCV] at h; rw [h]⟩
  case fel.fel.fel =>
    have e := (eqK_ok h.1).symm.trans (eqK_ok h'.1)
    have e2 := (Nat.eq_of_beq_eq_true h.2).symm.trans (Nat.eq_of_beq_eq_true h'.2)
    subst e; subst e2
    exact ⟨rfl, fun h => by simp [leavesCV] at h; rw [h]⟩
  case inn.inn.inn =>
    have e := (Nat.eq_of_beq_eq_true h.1).symm.trans (Nat.eq_of_beq_eq_true h'.1)
    have e2 := (Nat.eq_of_beq_eq_true h.2).symm.trans (Nat.eq_of_beq_eq_true h'.2)
    subst e; subst e2
    exact ⟨rfl, fun h => by simp [leavesCV] at h; rw [h]⟩
  case iel.iel.iel =>
    have e := (Nat.eq_of_beq_eq_true h.1).symm.trans (Nat.eq_of_beq_eq_true h'.1)
    have e2 := (Nat.eq_of_beq_eq_true h.2.1).symm.trans (Nat.eq_of_beq_eq_true h'.2.1)
    have e3 := (Nat.eq_of_beq_eq_true h.2.2).symm.trans (Nat.eq_of_beq_eq_true h'.2.2)
    subst e; subst e2; subst e3
    exact ⟨rfl, fun h => by simp [leavesCV] at h; rw [h.1, h.2]⟩
  case clo.clo.clo =>
    have e := (Nat.eq_of_beq_eq_true h.1).symm.trans (Nat.eq_of_beq_eq_true h'.1)
    subst e
    rw [shCaps_eq _ _ _ h.2 h'.2]
    exact ⟨rfl, fun _ => rfl⟩
  case fnv.fnv.fnv =>
    have e := (eqK_ok h.1).symm.trans (eqK_ok h'.1)
    have e2 := (eqK_ok h.2).symm.trans (eqK_ok h'.2)
    subst e; subst e2
    exact ⟨rfl, fun h => by simp [leavesCV] at h; rw [h]⟩
theorem app_split {α : Type} {a b c d : List α} (h : a ++ c = b ++ d) (hl : a.length = b.length) : a = b ∧ c = d := List.append_inj h hl
theorem shCVs_eq : ∀ (s a b : List CV), shCVs s a = true → shCVs s b = true → (leavesCVs a).length = (leavesCVs b).length ∧ (leavesCVs a = leavesCVs b → a = b)
  | [], [], [], _, _ => ⟨rfl, fun _ => rfl⟩
  | [], _ :: _, _, h, _ => by cases h
  | [], [], _ :: _, _, h => by cases h
  | _ :: _, [], _, h, _ => by cases h
  | _ :: _, _ :: _, [], _, h => by cases h
  | x :: s, y :: a, z :: b, h, h' => by
    simp only [shCVs, Bool.and_eq_true] at h h'
    obtain ⟨h1, h2⟩ := shCV_eq h.1 h'.1
    obtain ⟨h3, h4⟩ := shCVs_eq s a b h.2 h'.2
    refine ⟨by simp [leavesCVs, h1, h3], fun e => ?_⟩
    obtain ⟨e1, e2⟩ := app_split e h1
    rw [h2 e1, h4 e2]
theorem shDV_eq {s a b : DV} (h : shDV s a = true) (h' : shDV s b = true) : (leavesDV a).length = (leavesDV b).length ∧ (leavesDV a = leavesDV b → a = b) := by
  cases s <;> cases a <;> first | (cases h; done) | (cases b <;> first | (cases h'; done) | skip)
  simp only [shDV, Bool.and_eq_true] at h h'
  have e := (eqB_ok h.1).symm.trans (eqB_ok h'.1)
  subst e
  obtain ⟨h1, h2⟩ := shCVs_eq _ _ _ h.2 h'.2
  exact ⟨h1, fun e => by rw [h2 e]⟩
theorem shOB_eq {s a b : OB} (h : shOB s a = true) (h' : shOB s b = true) : (leavesOB a).length = (leavesOB b).length ∧ (leavesOB a = leavesOB b → a = b) := by
  cases s <;> cases a <;> first | (cases h; done) | (cases b <;> first | (cases h'; done) | skip)
  all_goals simp only [shOB, Bool.and_eq_true] at h h'
  case box.box.box =>
    obtain ⟨h1, h2⟩ := shCVs_eq _ _ _ h h'
    exact ⟨h1, fun e => by rw [h2 e]⟩
  case arr.arr.arr =>
    have e := (eqK_ok h.1).symm.trans (eqK_ok h'.1)
    have e2 := (eqB_ok h.2.1).symm.trans (eqB_ok h'.2.1)
    have e3 := (eqB_ok h.2.2).symm.trans (eqB_ok h'.2.2)
    subst e; subst e2; subst e3
    exact ⟨rfl, fun h => by simp [leavesOB] at h; rw [h]⟩
  case par.par.par =>
    have e := (eqK_ok h).symm.trans (eqK_ok h')
    subst e
    exact ⟨rfl, fun h => by simp [leavesOB] at h; rw [h.1, h.2]⟩
theorem shS_eq : ∀ (s a b : List (Nat × DV)), shS s a = true → shS s b = true → (leavesS a).length = (leavesS b).length ∧ (leavesS a = leavesS b → a = b)
  | [], [], [], _, _ => ⟨rfl, fun _ => rfl⟩
  | [], _ :: _, _, h, _ => by cases h
  | [], [], _ :: _, _, h => by cases h
  | _ :: _, [], _, h, _ => by cases h
  | _ :: _, _ :: _, [], _, h => by cases h
  | x :: s, y :: a, z :: b, h, h' => by
    simp only [shS, Bool.and_eq_true] at h h'
    have e0 := (Nat.eq_of_beq_eq_true h.1).symm.trans (Nat.eq_of_beq_eq_true h'.1)
    obtain ⟨h1, h2⟩ := shDV_eq h.2.1 h'.2.1
    obtain ⟨h3, h4⟩ := shS_eq s a b h.2.2 h'.2.2
    refine ⟨by simp [leavesS, h1, h3], fun e => ?_⟩
    obtain ⟨e1, e2⟩ := app_split e h1
    rw [h4 e2, Prod.ext e0 (h2 e1)]
theorem shO_eq : ∀ (s a b : List (Nat × OB)), shO s a = true → shO s b = true → (leavesO a).length = (leavesO b).length ∧ (leavesO a = leavesO b → a = b)
  | [], [], [], _, _ => ⟨rfl, fun _ => rfl⟩
  | [], _ :: _, _, h, _ => by cases h
  | [], [], _ :: _, _, h => by cases h
  | _ :: _, [], _, h, _ => by cases h
  | _ :: _, _ :: _, [], _, h => by cases h
  | x :: s, y :: a, z :: b, h, h' => by
    simp only [shO, Bool.and_eq_true] at h h'
    have e0 := (Nat.eq_of_beq_eq_true h.1).symm.trans (Nat.eq_of_beq_eq_true h'.1)
    obtain ⟨h1, h2⟩ := shOB_eq h.2.1 h'.2.1
    obtain ⟨h3, h4⟩ := shO_eq s a b h.2.2 h'.2.2
    refine ⟨by simp [leavesO, h1, h3], fun e => ?_⟩
    obtain ⟨e1, e2⟩ := app_split e h1
    rw [h4 e2, Prod.ext e0 (h2 e1)]
theorem shape_eq {s a b : St} (h : shape s a = true) (h' : shape s b = true) (e : leaves a = leaves b) : a = b := by
  obtain ⟨a1, a2, a3⟩ := a
  obtain ⟨b1, b2, b3⟩ := b
  simp only [shape, Bool.and_eq_true] at h h'
  obtain ⟨h1, h2⟩ := shS_eq _ _ _ h.1 h'.1
  obtain ⟨h3, h4⟩ := shO_eq _ _ _ h.2.1 h'.2.1
  obtain ⟨h5, h6⟩ := shCVs_eq _ _ _ h.2.2 h'.2.2
  simp only [leaves] at e
  obtain ⟨e1, e2⟩ := app_split e h1
  obtain ⟨e3, e4⟩ := app_split e2 h3
  rw [h2 e1, h4 e3, h6 e4]
theorem LK.get_ok {k : LK} {x : Leaf} {v : k.T} (h : k.get x = some v) : x = ⟨k, v⟩ := by
  obtain ⟨k', v'⟩ := x
  cases k <;> cases k' <;> first | (cases h; done) | skip
  case i.i => cases h; rfl
  case b.b => cases h; rfl
  case s.s => cases h; rfl
  case l.l =>
    obtain ⟨e, h⟩ := castL_some h
    subst e; subst h; rfl
  case x.x =>
    simp only [LK.get] at h
    split at h
    · rename_i e _
      subst e
      cases h; rfl
    · cases h
  case f.f =>
    simp only [LK.get] at h
    split at h
    · rename_i e e' _ _
      subst e; subst e'
      cases h; rfl
    · cases h
theorem LT.get_ok : ∀ (ks : List LK) (xs : List Leaf) (v : LT ks), LT.get ks xs = some v → xs = LT.all ks v
  | [], [], v, _ => rfl
  | [], _ :: _, v, h => by cases h
  | _ :: _, [], v, h => by cases h
  | k :: ks, x :: xs, v, h => by
    simp only [LT.get] at h
    cases h1 : k.get x with
    | none => rw [h1] at h; cases h
    | some u =>
      rw [h1] at h
      simp only [Option.bind_some] at h
      cases h2 : LT.get ks xs with
      | none => rw [h2] at h; cases h
      | some us =>
        rw [h2] at h
        cases h
        show x :: xs = ⟨k, u⟩ :: LT.all ks us
        rw [LK.get_ok h1, LT.get_ok ks xs us h2]

/-! ### Code -/
def exOf : Ex → Exit
  | .normal => .normal
  | .exit id => .exit id
  | .ret => .ret
theorem least {p : Nat → Prop} (h : ∃ n, p n) : ∃ n, p n ∧ ∀ m, p m → n ≤ m := by
  obtain ⟨n, hn⟩ := h
  induction n using Nat.strongRecOn with
  | _ n ih =>
    by_cases hm : ∃ m, m < n ∧ p m
    · obtain ⟨m, hlt, hp⟩ := hm
      exact ih m hlt hp
    · exact ⟨n, hn, fun m hp => Nat.le_of_not_lt fun hlt => hm ⟨m, hlt, hp⟩⟩
noncomputable def leastN (p : Nat → Prop) : Nat := open Classical in if h : ∃ n, p n then Classical.choose (least h) else 0
theorem leastN_ok {p : Nat → Prop} {n : Nat} (h : p n) : p (leastN p) ∧ leastN p ≤ n := by
  unfold leastN
  rw [dif_pos ⟨n, h⟩]
  have := Classical.choose_spec (least ⟨n, h⟩)
  exact ⟨this.1, this.2 n h⟩
theorem Lp.run_some {ρ : Type} {lp : Lp ρ} {n : Nat} {st : St} {C : Ex → St → Option ρ} {y : ρ} (h : lp.run n st C = some y) (hl : ∀ x, leaves (lp.tm x) = LT.all lp.ks x ∧ shape (lp.tm (LT.dflt lp.ks)) (lp.tm x) = true) : ∃ x, st = lp.tm x ∧ lp.f C n x = some y := by
  unfold Lp.run at h
  cases hs : shape (lp.tm (LT.dflt lp.ks)) st with
  | false => rw [hs] at h; cases h
  | true =>
    rw [hs] at h
    simp only [cond_true] at h
    cases hx : LT.get lp.ks (leaves st) with
    | none => rw [hx] at h; cases h
    | some x =>
      rw [hx] at h
      exact ⟨x, shape_eq hs (hl x).2 ((LT.get_ok _ _ _ hx).trans (hl x).1.symm), h⟩
theorem LoopsOk.app {ρ : Type} {E : Env} {k : Nat} {hd : Hints} {ls : List (Nat × Lp ρ)} : ∀ (l r : List (Nat × Code)), LoopsOk E k hd ls (l ++ r) → LoopsOk E k hd ls l ∧ LoopsOk E k hd ls r
  | [], r, h => ⟨trivial, h⟩
  | x :: l, r, h => by
    obtain ⟨h1, h2⟩ := LoopsOk.app l r h.2
    exact ⟨⟨h.1, h1⟩, h2⟩
theorem full_sound {X : Cx} {ρ : Type} {st : St} {B : St → Option ρ} {y : ρ} {a : Act} {w : World} (h : fullM st B = some y) (hr : Rel X st a w) : ∃ st', Rel X st' a w ∧ B st' = some y := by
  unfold fullM at h
  split at h
  · exact ⟨st, hr, h⟩
  · rename_i r _
    split at h
    · rename_i e l m ho
      cases hb : m == (l.length : Int) with
      | false => rw [hb] at h; cases h
      | true =>
        rw [hb] at h
        have hm : m = (l.length : Int) := by simpa using hb
        obtain ⟨β, D, S, Z, hra⟩ := hr
        have hob := hra.objs r
        rw [ho] at hob
        obtain ⟨h1, h2, h3, h4⟩ := hob
        have h5 := hra.set r (.arr e true false l) (by simp) CS.no (S r) Z (CS.no_le _) (Agr.refl _ _) (CS.le.refl _) (CS.le.refl _) (fun b j z => .inl z) (hra.sz r) ⟨h1, h2, h4.imp (CS.le.refl _) fun vs S1 _ => HL.allFlags l m.toNat vs S1 (by omega)⟩
        have e1 : (⟨st.slots, put st.objs r (.arr e true false l), st.outs⟩ : St).ob = upd st.ob r (.arr e true false l) := look_put _ _ _ _
        exact ⟨_, ⟨β, D, upd S r (S r), Z, by rw [e1]; exact h5⟩, h⟩
    · cases h
theorem den_sound {X : Cx} {E : Env} {k : Nat} (hE : EnvOk X.P E k) {ρ : Type} {hd : Hints} {ls : List (Nat × Lp ρ)} {y : ρ} : ∀ (c : Code), dstsOk X.n c = true → LoopsOk E k hd ls (loopsOf c) → ∀ (st : St) (C : Ex → St → Option ρ) (a : Act) (w : World) (Q : Exit → Act → World → Prop), den E k hd (runL k hd ls) c st C = some y → Rel X st a w →
    (∀ e st' a' w', Rel X st' a' w' → C e st' = some y → Q (exOf e) a' w') → c.wp X.P Q a w := by
  intro c
  induction c with
  | skip =>
    intro _ _ st C a w Q h hr hQ
    exact wp_skip (hQ .normal st a w hr h)
  | region rid ops draw =>
    intro hn _ st C a w Q h hr hQ
    have hds : ∀ o ∈ ops.toList, ∀ t, o.dst = some t → t < X.n := fun o ho t ht => by
      have := List.all_eq_true.1 hn o ho
      rw [ht] at this
      exact blt_lt this
    cases draw with
    | false =>
      have h : runOps E k ops.toList rid 0 ops.toList ⟨onlyN hd.vars st.slots, st.objs, st.outs⟩ (C .normal) = some y := h
      exact wp_region_list (runOps_sound hE _ _ _ _ _ _ h (hr.only _) hds fun st' a' w' hr' hc => hQ .normal st' a' w' hr' hc)
    | true =>
      have h : runOpsL E k ops.toList rid 0 ops.toList ⟨onlyN hd.vars st.slots, st.objs, st.outs⟩ [] (fun st lg => match findO hd.anc rid with
        | some b => bif backOk 0 ops.toList && (ancOk b b ops.toList && (apartLog b lg && apartTmps b ops.toList 0 [] ops.toList)) then C .normal st else hard
        | none => hard) = some y := h
      refine runOpsL_sound hE h (hr.only _) hds (fun st' lg hc => ?_) fun st' lg a' w' hr' hc => ?_
      · split at hc
        · rename_i b _
          cases hb : (backOk 0 ops.toList && (ancOk b b ops.toList && (apartLog b lg && apartTmps b ops.toList 0 [] ops.toList))) with
          | false => rw [hb] at hc; cases hc
          | true =>
            simp only [Bool.and_eq_true] at hb
            exact ⟨b, hb.1, hb.2.1, hb.2.2.1, hb.2.2.2⟩
        · cases hc
      · split at hc
        · rename_i b _
          cases hb : (backOk 0 ops.toList && (ancOk b b ops.toList && (apartLog b lg && apartTmps b ops.toList 0 [] ops.toList))) with
          | false => rw [hb] at hc; cases hc
          | true =>
            rw [hb] at hc
            exact hQ .normal st' a' w' hr' hc
        · cases hc
  | seq x z ihx ihz =>
    intro hn hl st C a w Q h hr hQ
    simp only [dstsOk, Bool.and_eq_true] at hn
    obtain ⟨l1, l2⟩ := LoopsOk.app _ _ hl
    refine wp_seq (ihx hn.1 l1 st _ a w _ h hr fun e st' a' w' hr' hc => ?_)
    cases e with
    | normal => exact ihz hn.2 l2 st' C a' w' Q hc hr' hQ
    | exit id => exact hQ _ st' a' w' hr' hc
    | ret => exact hQ _ st' a' w' hr' hc
  | cond p x z ihx ihz =>
    intro hn hl st C a w Q h hr hQ
    simp only [dstsOk, Bool.and_eq_true] at hn
    obtain ⟨l1, l2⟩ := LoopsOk.app _ _ hl
    simp only [den] at h
    split at h
    · rename_i b hb
      obtain ⟨β, D, S, Z, hra⟩ := hr
      have hv := hra.eval st rfl p
      rw [hb] at hv
      cases b with
      | true => exact wp_cond_true hv (ihx hn.1 l1 st C a w Q h ⟨β, D, S, Z, hra⟩ hQ)
      | false => exact wp_cond_false hv (ihz hn.2 l2 st C a w Q h ⟨β, D, S, Z, hra⟩ hQ)
    · cases h
  | block id x ih =>
    intro hn hl st C a w Q h hr hQ
    refine wp_block (ih hn hl st _ a w _ h hr fun e st' a' w' hr' hc => ?_)
    cases e with
    | normal => exact hQ _ st' a' w' hr' hc
    | ret => exact hQ _ st' a' w' hr' hc
    | exit j =>
      simp only [exOf, Exit.inBlock]
      simp only at hc
      cases hb : Nat.beq j id with
      | true =>
        rw [hb] at hc
        rw [if_pos (Nat.eq_of_beq_eq_true hb)]
        exact hQ .normal st' a' w' hr' hc
      | false =>
        rw [hb] at hc
        rw [if_neg fun e => by rw [e, beq_self] at hb; cases hb]
        exact hQ (.exit j) st' a' w' hr' hc
  | loop x ih =>
    intro hn hl st C a w Q h hr hQ
    have hl0 := hl.1
    have h : runL k hd ls (headId x) st C = some y := h
    unfold runL at h
    unfold LoopOk at hl0
    split at h
    · rename_i hh lp h1 h2
      rw [h1, h2] at hl0
      obtain ⟨hz, hs, hlv⟩ := hl0
      obtain ⟨x0, e0, h0⟩ := Lp.run_some h hlv
      have hI0 := hr.canon hh
      rw [e0] at hI0
      let p : Act → World → Nat → Prop := fun a w n => ∃ x, Rel X (lp.tm x) a w ∧ lp.f C n x = some y
      refine wp_loop (fun a w => ∃ n, p a w n) (fun a w => leastN (p a w)) ⟨k, x0, hI0, h0⟩ fun a w ⟨n0, hn0⟩ => ?_
      obtain ⟨⟨x1, hr1, hf1⟩, _⟩ := leastN_ok hn0
      generalize hm : leastN (p a w) = m at hf1
      cases m with
      | zero => rw [hz] at hf1; cases hf1
      | succ m =>
        rw [hs] at hf1
        have hf1 : den E k hd (runL k hd ls) x (lp.tm x1) (fun e st => match e with
          | .normal => lp.run m (canon hh st) C
          | e => C e st) = some y := hf1
        refine ih hn hl.2 _ _ a w _ hf1 hr1 fun e st' a' w' hr' hc => ?_
        cases e with
        | normal =>
          obtain ⟨x2, e2, h2⟩ := Lp.run_some hc hlv
          have hr2 := hr'.canon hh
          rw [e2] at hr2
          have hp : p a' w' m := ⟨x2, hr2, h2⟩
          refine ⟨⟨m, hp⟩, ?_⟩
          have := (leastN_ok hp).2
          omega
        | exit id => exact hQ _ st' a' w' hr' hc
        | ret => exact hQ _ st' a' w' hr' hc
    · cases h
  | exit id =>
    intro _ _ st C a w Q h hr hQ
    simp only [den] at h
    split at h
    · exact wp_exit (hQ (.exit id) _ a w (hr.canon _) h)
    · exact wp_exit (hQ (.exit id) _ a w hr h)
  | ret =>
    intro _ _ st C a w Q h hr hQ
    obtain ⟨st', hr', h'⟩ := full_sound h hr
    exact wp_ret (hQ .ret _ a w (hr'.canon _) h')
  | _ => intro _ _ st C a w Q h; cases h
end Go.Dn
/- A function's begin and its end: what it does is what is said. -/
set_option linter.unusedVariables false
namespace Go.Dn

theorem give_top : ∀ (κ : K) (q : Q) (x : κ.T) (i : Nat), (κ.give q x i).2.2 ≤ i + 2 * κ.n
  | .int _, q, _, _ => by cases q <;> exact Nat.le_add_right _ _
  | .bool, q, _, _ => by cases q <;> exact Nat.le_add_right _ _
  | .str, q, _, _ => by cases q <;> exact Nat.le_add_right _ _
  | .unit, q, _, _ => by cases q <;> exact Nat.le_add_right _ _
  | .pair a b, q, x, i => by
    have h1 := give_top a q.l x.1 i
    have h2 := give_top b q.r x.2 (a.give q.l x.1 i).2.2
    simp only [K.give, K.n]; omega
  | .sl _, q, _, _ => by
    cases q
    · exact Nat.le_add_right _ _
    · exact Nat.le_refl _
    · exact Nat.le_refl _
    · exact Nat.le_add_right _ _
theorem ArgsR.len {P : Program} {Z W : CS} {w : World} : ∀ (ps : List PM) (x : Sig.In ps) (vs : List Value) (T : CS), ArgsR P Z W w ps x vs T → vs.length = ps.length
  | [], x, vs, T, h => by simp only [ArgsR] at h; rw [h]; rfl
  | .b κ :: ps, x, vs, T, h => by obtain ⟨v, us, r, rfl, _, _, h⟩ := h; simp [ArgsR.len ps x.2 r T h]
  | .r κ :: ps, x, vs, T, h => by obtain ⟨b, off, us, r, rfl, _, _, h⟩ := h; simp [ArgsR.len ps x.2 r T h]
  | .p κ i _ :: ps, x, vs, T, h => by obtain ⟨b, off, r, T1, T2, rfl, _, h, _⟩ := h; simp [ArgsR.len ps x.2 r T2 h]
  | .m κ :: ps, x, vs, T, h => by obtain ⟨v, us, r, T1, T2, rfl, _, _, h, _⟩ := h; simp [ArgsR.len ps x.2 r T2 h]
  | .rr κ :: ps, x, vs, T, h => by obtain ⟨b0, off0, b, off, us, r, rfl, _, _, _, _, h⟩ := h; simp [ArgsR.len ps x.2 r T h]
  | .q κ i :: ps, x, vs, T, h => by obtain ⟨b, off, r, T1, T2, rfl, _, h, _⟩ := h; simp [ArgsR.len ps x.2 r T2 h]
  | .c e d :: ps, x, vs, T, h => by obtain ⟨v, r, T1, T2, rfl, _, h, _⟩ := h; simp [ArgsR.len ps x.2 r T2 h]
  | .z _ :: ps, x, vs, T, h => by obtain ⟨A, r, rfl, h⟩ := h; simp [ArgsR.len ps x r T h]
  | .f a b :: ps, x, vs, T, h => by obtain ⟨v, r, rfl, _, h⟩ := h; simp [ArgsR.len ps x.2 r T h]

def X0 (P : Program) (n : Nat) (W : CS) (w : World) (Z : CS) : Cx := ⟨P, n, W, w, Z, []⟩
theorem vr_ov {P : Program} {n : Nat} {W : CS} {w0 : World} {Z0 : CS} (ov ov' : List Value) {β : Nat → Pl} {D : Nat → Prop} {Z : CS} {w : World} {c : CV} {v : Value} (h : VR ⟨P, n, W, w0, Z0, ov⟩ β D Z w c v) : VR ⟨P, n, W, w0, Z0, ov'⟩ β D Z w c v := by
  cases c <;> exact h
theorem or_ov {P : Program} {n : Nat} {W : CS} {w0 : World} {Z0 : CS} (ov ov' : List Value) {β : Nat → Pl} {D : Nat → Prop} {Z : CS} {w : World} {o : Nat} {S : CS} {b : OB} (h : OR ⟨P, n, W, w0, Z0, ov⟩ β D Z w o S b) : OR ⟨P, n, W, w0, Z0, ov'⟩ β D Z w o S b := by
  cases b with
  | box cs =>
    intro i c hi
    obtain ⟨h1, v, h2, h3⟩ := h i c hi
    exact ⟨h1, v, h2, vr_ov ov ov' h3⟩
  | arr e d fr l => cases fr <;> exact h
  | hole => exact h
  | par => exact h
  | non => trivial
  | dead => trivial

/-- What of the arguments is looked at again at the end. -/
def OVR : List PM → List Value → List Value → Prop
  | [], _, ov => ov = []
  | .p _ _ _ :: ps, v :: vs, ov => ∃ r, ov = v :: r ∧ OVR ps vs r
  | .m κ :: ps, v :: vs, ov => ∃ us r, ov = us ++ r ∧ pk κ us v ∧ us.length = κ.n ∧ OVR ps vs r
  | .b _ :: ps, _ :: vs, ov => OVR ps vs ov
  | .r _ :: ps, _ :: vs, ov => OVR ps vs ov
  | .c _ _ :: ps, _ :: vs, ov => OVR ps vs ov
  | .z _ :: ps, _ :: vs, ov => OVR ps vs ov
  | .f _ _ :: ps, _ :: vs, ov => OVR ps vs ov
  | .q _ _ :: ps, _ :: vs, ov => OVR ps vs ov
  | .rr _ :: ps, _ :: vs, ov => OVR ps vs ov
  | _, [], _ => False
section
variable {P : Program} {n : Nat} {W : CS} {w : World} {Z : CS}
/-- The objects and temporaries at a function's begin. -/
theorem entryAll_sound {outs0 : List CV} {a : Act} {sl0 : Nat → DV} : ∀ (ps : List PM) (i : Nat) (x : Sig.In ps) (vs : List Value) (T : CS) (β : Nat → Pl) (D : Nat → Prop) (S : Nat → CS) (ob : Nat → OB), psOk ps = true → ArgsR P Z W w ps x vs T → T.le W → RelAt (X0 P n W w Z) β D S Z sl0 ob outs0 a w → Free (X0 P n W w Z) S Z w T → (∀ z, i * 64 ≤ z → ob z = .non) →
    ∃ β' D' S' ov, RelAt (X0 P n W w Z) β' D' S' Z sl0 (updAll ob (entryAll i ps x).2.1) outs0 a w ∧ All2 (fun s v => DR (VR (X0 P n W w Z) β' D' Z w) s.2 v) (entryAll i ps x).1 vs ∧ (entryAll i ps x).1.map (·.1) = List.range' i ps.length ∧ All2 (VR (X0 P n W w Z) β' D' Z w) (entryAll i ps x).2.2 ov ∧ OVR ps vs ov ∧
      Grew (X0 P n W w Z) β D S Z w T β' D' S' := by
  intro ps
  induction ps with
  | nil =>
    intro i x vs T β D S ob hps hA hT hr hf hn
    simp only [ArgsR] at hA
    subst hA
    exact ⟨β, D, S, [], hr, trivial, rfl, trivial, rfl, fun o d => ⟨d, rfl⟩, fun o b j s => .inl s⟩
  | cons p ps ih =>
    intro i x vs T β D S ob hps hA hT hr hf hn
    have hps2 : psOk ps = true := by unfold psOk at hps ⊢; simp only [List.all_cons, Bool.and_eq_true] at hps; exact hps.2
    -- a parameter without memory
    have plain : ∀ (v : Value) (r : List Value) (d : DV) (x2 : Sig.In ps) (T2 : CS), T2.le T → ArgsR P Z W w ps x2 r T2 → (∀ (β' : Nat → Pl) (D' : Nat → Prop), (∀ o, D o → D' o ∧ β' o = β o) → DR (VR (X0 P n W w Z) β' D' Z w) d v) → (∀ ov, OVR ps r ov → OVR (p :: ps) (v :: r) ov) →
        ∃ β' D' S' ov, RelAt (X0 P n W w Z) β' D' S' Z sl0 (updAll ob (entryAll (i + 1) ps x2).2.1) outs0 a w ∧ All2 (fun s v => DR (VR (X0 P n W w Z) β' D' Z w) s.2 v) ((i, d) :: (entryAll (i + 1) ps x2).1) (v :: r) ∧ ((i, d) :: (entryAll (i + 1) ps x2).1).map (·.1) = List.range' i (ps.length + 1) ∧ All2 (VR (X0 P n W w Z) β' D' Z w) (entryAll (i + 1) ps x2).2.2 ov ∧ OVR (p :: ps) (v :: r) ov ∧
          Grew (X0 P n W w Z) β D S Z w T β' D' S' := fun v r d x2 T2 hT2 h2 hd hov => by
      obtain ⟨β', D', S', ov, k1, k2, k3, k4, k6, k5⟩ := ih (i + 1) x2 r T2 β D S ob hps2 h2 (hT2.trans hT) hr (hf.le hT2) (fun z hz => hn z (by omega))
      refine ⟨β', D', S', ov, k1, ⟨hd β' D' k5.d, k2⟩, ?_, k4, hov ov k6, k5.d, fun o b j s => (k5.s o b j s).imp (fun h => h) (hT2 b j)⟩
      rw [List.map_cons, k3, List.range'_succ]
    -- a parameter with memory of its own
    have owned : ∀ (v : Value) (r : List Value) (d : DV) (l : List (Nat × OB)) (o1 : List CV) (u1 : List Value) (x2 : Sig.In ps) (T1 T2 : CS), Sep T T1 T2 → ArgsR P Z W w ps x2 r T2 → (∀ z ∈ l, i * 64 ≤ z.1 ∧ z.1 < (i + 1) * 64) →
        (∃ β1 D1 S1, RelAt (X0 P n W w Z) β1 D1 S1 Z sl0 (updAll ob l) outs0 a w ∧ DR (VR (X0 P n W w Z) β1 D1 Z w) d v ∧ All2 (VR (X0 P n W w Z) β1 D1 Z w) o1 u1 ∧ Grew (X0 P n W w Z) β D S Z w T1 β1 D1 S1) → (∀ ov, OVR ps r ov → OVR (p :: ps) (v :: r) (u1 ++ ov)) →
        ∃ β' D' S' ov, RelAt (X0 P n W w Z) β' D' S' Z sl0 (updAll ob (l ++ (entryAll (i + 1) ps x2).2.1)) outs0 a w ∧ All2 (fun s v => DR (VR (X0 P n W w Z) β' D' Z w) s.2 v) ((i, d) :: (entryAll (i + 1) ps x2).1) (v :: r) ∧ ((i, d) :: (entryAll (i + 1) ps x2).1).map (·.1) = List.range' i (ps.length + 1) ∧ All2 (VR (X0 P n W w Z) β' D' Z w) (o1 ++ (entryAll (i + 1) ps x2).2.2) ov ∧ OVR (p :: ps) (v :: r) ov ∧
          Grew (X0 P n W w Z) β D S Z w T β' D' S' := fun v r d l o1 u1 x2 T1 T2 hs h2 hl ⟨β1, D1, S1, q1, q2, q3, q4⟩ hov => by
      obtain ⟨β', D', S', ov, k1, k2, k3, k4, k6, k5⟩ := ih (i + 1) x2 r T2 β1 D1 S1 _ hps2 h2 (hs.r.trans hT) q1 ((hf.le hs.r).grew q4 hs.d.symm) (fun z hz => by
        rw [updAll_out _ _ _ fun x hx e => ?_]
        · exact hn z (by omega)
        · have := (hl x hx).2; omega)
      refine ⟨β', D', S', u1 ++ ov, by rw [updAll_app]; exact k1, ⟨DR.imp (fun c v h => h.grew k5) _ _ q2, k2⟩, ?_, All2.app _ _ _ _ (All2.imp (fun c v h => h.grew k5) _ _ q3) k4, hov ov k6, q4.trans k5 hs.l hs.r⟩
      rw [List.map_cons, k3, List.range'_succ]
    cases p with
    | b κ =>
      obtain ⟨v, us, r, rfl, hp, hh, h2⟩ := hA
      exact plain v r _ x.2 T (CS.le.refl _) h2 (fun β' D' _ => dr_of (cvs_rd κ .rd (.inl rfl) _ _ _ hh) (fun _ _ h => vr_noskip h) (cvs_len κ x.1) hp) fun ov h => h
    | r κ =>
      obtain ⟨b, off, us, r, rfl, hh, hc, h2⟩ := hA
      refine plain _ r _ x.2 T (CS.le.refl _) h2 (fun β' D' _ => ⟨b, off, us, by simp, hh, fun j u hj => ⟨(hc j u hj).1, .inr fun hF => ?_⟩⟩) fun ov h => h
      rcases hF with hF | hF
      · exact (hc j u hj).2 hF
      · obtain ⟨_, _, _, hb, _⟩ := heap_of_cell? (hc j u hj).1
        have := lt_of_heap hb
        exact absurd hF (by show ¬ w.heap.size ≤ b; omega)
    | p κ q q' =>
      obtain ⟨b, off, r, T1, T2, rfl, ⟨us, T', hh, hT', hc⟩, h2, hs⟩ := hA
      have gi := give_ids κ q x.1 (i * 64 + 2)
      have gt := give_top κ q x.1 (i * 64 + 2)
      have hk : 2 * κ.n + 2 ≤ 64 := by unfold psOk at hps; simp only [List.all_cons, Bool.and_eq_true] at hps; exact Nat.le_of_ble_eq_true hps.1
      have hus := H.len _ _ _ _ _ hh
      have hT1 : T1.le T := hs.l
      obtain ⟨β1, D1, S1, g1, g2, g3⟩ := give_sound κ q x.1 (i * 64 + 2) us T' β D S ob hh hr (hf.le (hT'.trans hT1)) (fun z hz => hn z.1 (by have := (gi.2 z hz).1; omega))
      let C : CS := fun b' j => b' = b ∧ off ≤ j ∧ j < off + κ.n
      have hC : ∀ b' j, C b' j → T1 b' j ∧ ¬ T' b' j ∧ b' < w.heap.size := fun b' j ⟨e, h1, h2⟩ => by
        subst e
        have hi : j - off < us.length := by omega
        have := hc (j - off) us[j - off] (by simp [hi])
        rw [show off + (j - off) = j by omega] at this
        exact ⟨this.2.1, this.2.2, this.1.lt⟩
      have hn0 : updAll ob (κ.give q x.1 (i * 64 + 2)).2.1 (i * 64) = .non := by
        rw [updAll_out _ _ _ fun z hz e => ?_]
        · exact hn _ (Nat.le_refl _)
        · have := (gi.2 z hz).1; omega
      have hnD : ∀ o, D1 o → o ≠ i * 64 := fun o d e => g1.dom o d (e ▸ hn0)
      have hfC := (hf.le ((fun b j h => hT1 b j (hC b j h).1) : C.le T)).grew g3 (fun b j c t => (hC b j c).2.1 t)
      have hnew := g1.new (i * 64) hn0 ⟨b, off, none, 0, 0, 0⟩ (.box (κ.give q x.1 (i * 64 + 2)).1) (by simp) C hfC.f hfC.b hfC.z (fun o _ => hfC.s o) (by
        intro j c hj
        obtain ⟨u, h1, h2⟩ := All2.get _ _ g2 j c hj
        have hlt : j < κ.n := by rw [← give_len κ q x.1 (i * 64 + 2)]; exact (List.getElem?_eq_some_iff.1 hj).1
        rw [upd_same]
        exact ⟨⟨rfl, by show off ≤ off + j; omega, by show off + j < off + κ.n; omega⟩, u, (hc j u h1).1, h2.mono (fun o d => ⟨.inl d, upd_ne _ _ (hnD o d)⟩) (CS.le.refl _) (Agr.refl CS.no w) (fun _ _ t => t.elim) (fun _ _ t => t.elim)⟩)
      have hvr : VR (X0 P n W w Z) (upd β1 (i * 64) ⟨b, off, none, 0, 0, 0⟩) (fun o => D1 o ∨ o = i * 64) Z w (.box (i * 64) 0) (.pointer (some ⟨b, off, none⟩)) := ⟨.inr rfl, by rw [upd_same]; rfl⟩
      have hdr : DR (VR (X0 P n W w Z) (upd β1 (i * 64) ⟨b, off, none, 0, 0, 0⟩) (fun o => D1 o ∨ o = i * 64) Z w) (.v false [.box (i * 64) 0]) (.pointer (some ⟨b, off, none⟩)) := hvr
      refine owned _ r (.v false [.box (i * 64) 0]) ((i * 64, .box (κ.give q x.1 (i * 64 + 2)).1) :: (κ.give q x.1 (i * 64 + 2)).2.1) [.box (i * 64) 0] [_] x.2 T1 T2 hs h2 (fun z hz => ?_) ⟨_, _, upd S1 (i * 64) C, ?_, hdr, ⟨hvr, trivial⟩, fun o d => ?_, fun o b' j s => ?_⟩ fun ov h => ⟨ov, rfl, h⟩
      · rcases List.mem_cons.1 hz with rfl | hz
        · exact ⟨Nat.le_refl _, by show i * 64 < (i + 1) * 64; omega⟩
        · have := gi.2 z hz; omega
      · have e : updAll ob ((i * 64, .box (κ.give q x.1 (i * 64 + 2)).1) :: (κ.give q x.1 (i * 64 + 2)).2.1) = upd (updAll ob (κ.give q x.1 (i * 64 + 2)).2.1) (i * 64) (.box (κ.give q x.1 (i * 64 + 2)).1) :=
          upd_updAll _ _ _ _ fun z hz e => by have := (gi.2 z hz).1; omega
        rw [e]; exact hnew
      · have := g3.d o d
        exact ⟨.inl this.1, (upd_ne _ _ (hnD o this.1)).trans this.2⟩
      · by_cases e : o = i * 64
        · subst e; rw [upd_same] at s; exact .inr (hC b' j s).1
        · rw [upd_ne _ _ e] at s
          exact (g3.s o b' j s).imp (fun h => h) (hT' b' j)
    | rr κ =>
      obtain ⟨b0, off0, b, off, us, r, rfl, h0, h0', hh, hc, h2⟩ := hA
      have nF : ∀ (b j : Nat) (v : Value), w.cell? ⟨b, j, none⟩ = some v → ¬ W b j → ¬ (X0 P n W w Z).F b j := fun b j v h1 h2 hF => by
        rcases hF with hF | hF
        · exact h2 hF
        · obtain ⟨_, _, _, hb, _⟩ := heap_of_cell? h1
          have := lt_of_heap hb
          exact absurd hF (by show ¬ w.heap.size ≤ b; omega)
      exact plain _ r _ x.2 T (CS.le.refl _) h2 (fun β' D' _ => ⟨b0, off0, b, off, us, rfl, h0, .inr (nF _ _ _ h0 h0'), hh, fun j u hj => ⟨(hc j u hj).1, .inr (nF _ _ _ (hc j u hj).1 (hc j u hj).2)⟩⟩) fun ov h => h
    | q κ q =>
      obtain ⟨b, off, r, T1, T2, rfl, ⟨us, T', hh, hT', hc⟩, h2, hs⟩ := hA
      have gi := give_ids κ q x.1 (i * 64 + 2)
      have gt := give_top κ q x.1 (i * 64 + 2)
      have hk : 2 * κ.n + 2 ≤ 64 := by unfold psOk at hps; simp only [List.all_cons, Bool.and_eq_true] at hps; exact Nat.le_of_ble_eq_true hps.1
      have hus := H.len _ _ _ _ _ hh
      have hT1 : T1.le T := hs.l
      obtain ⟨β1, D1, S1, g1, g2, g3⟩ := give_sound κ q x.1 (i * 64 + 2) us T' β D S ob hh hr (hf.le (hT'.trans hT1)) (fun z hz => hn z.1 (by have := (gi.2 z hz).1; omega))
      let C : CS := fun b' j => b' = b ∧ off ≤ j ∧ j < off + κ.n
      have hC : ∀ b' j, C b' j → T1 b' j ∧ ¬ T' b' j ∧ b' < w.heap.size := fun b' j ⟨e, h1, h2⟩ => by
        subst e
        have hi : j - off < us.length := by omega
        have := hc (j - off) us[j - off] (by simp [hi])
        rw [show off + (j - off) = j by omega] at this
        exact ⟨this.2.1, this.2.2, this.1.lt⟩
      have hn0 : updAll ob (κ.give q x.1 (i * 64 + 2)).2.1 (i * 64) = .non := by
        rw [updAll_out _ _ _ fun z hz e => ?_]
        · exact hn _ (Nat.le_refl _)
        · have := (gi.2 z hz).1; omega
      have hnD : ∀ o, D1 o → o ≠ i * 64 := fun o d e => g1.dom o d (e ▸ hn0)
      have hfC := (hf.le ((fun b j h => hT1 b j (hC b j h).1) : C.le T)).grew g3 (fun b j c t => (hC b j c).2.1 t)
      have hnew := g1.new (i * 64) hn0 ⟨b, off, none, 0, 0, 0⟩ (.box (κ.give q x.1 (i * 64 + 2)).1) (by simp) C hfC.f hfC.b hfC.z (fun o _ => hfC.s o) (by
        intro j c hj
        obtain ⟨u, h1, h2⟩ := All2.get _ _ g2 j c hj
        have hlt : j < κ.n := by rw [← give_len κ q x.1 (i * 64 + 2)]; exact (List.getElem?_eq_some_iff.1 hj).1
        rw [upd_same]
        exact ⟨⟨rfl, by show off ≤ off + j; omega, by show off + j < off + κ.n; omega⟩, u, (hc j u h1).1, h2.mono (fun o d => ⟨.inl d, upd_ne _ _ (hnD o d)⟩) (CS.le.refl _) (Agr.refl CS.no w) (fun _ _ t => t.elim) (fun _ _ t => t.elim)⟩)
      have hvr : VR (X0 P n W w Z) (upd β1 (i * 64) ⟨b, off, none, 0, 0, 0⟩) (fun o => D1 o ∨ o = i * 64) Z w (.box (i * 64) 0) (.pointer (some ⟨b, off, none⟩)) := ⟨.inr rfl, by rw [upd_same]; rfl⟩
      have hdr : DR (VR (X0 P n W w Z) (upd β1 (i * 64) ⟨b, off, none, 0, 0, 0⟩) (fun o => D1 o ∨ o = i * 64) Z w) (.v false [.box (i * 64) 0]) (.pointer (some ⟨b, off, none⟩)) := hvr
      refine owned _ r (.v false [.box (i * 64) 0]) ((i * 64, .box (κ.give q x.1 (i * 64 + 2)).1) :: (κ.give q x.1 (i * 64 + 2)).2.1) [] [] x.2 T1 T2 hs h2 (fun z hz => ?_) ⟨_, _, upd S1 (i * 64) C, ?_, hdr, trivial, fun o d => ?_, fun o b' j s => ?_⟩ fun ov h => h
      · rcases List.mem_cons.1 hz with rfl | hz
        · exact ⟨Nat.le_refl _, by show i * 64 < (i + 1) * 64; omega⟩
        · have := gi.2 z hz; omega
      · have e : updAll ob ((i * 64, .box (κ.give q x.1 (i * 64 + 2)).1) :: (κ.give q x.1 (i * 64 + 2)).2.1) = upd (updAll ob (κ.give q x.1 (i * 64 + 2)).2.1) (i * 64) (.box (κ.give q x.1 (i * 64 + 2)).1) :=
          upd_updAll _ _ _ _ fun z hz e => by have := (gi.2 z hz).1; omega
        rw [e]; exact hnew
      · have := g3.d o d
        exact ⟨.inl this.1, (upd_ne _ _ (hnD o this.1)).trans this.2⟩
      · by_cases e : o = i * 64
        · subst e; rw [upd_same] at s; exact .inr (hC b' j s).1
        · rw [upd_ne _ _ e] at s
          exact (g3.s o b' j s).imp (fun h => h) (hT' b' j)
    | m κ =>
      obtain ⟨v, us, r, T1, T2, rfl, hp, hh, h2, hs⟩ := hA
      have gi := give_ids κ .dp x.1 (i * 64)
      have gt := give_top κ .dp x.1 (i * 64)
      have hk : 2 * κ.n ≤ 64 := by unfold psOk at hps; simp only [List.all_cons, Bool.and_eq_true] at hps; exact Nat.le_of_ble_eq_true hps.1
      obtain ⟨β1, D1, S1, g1, g2, g3⟩ := give_sound κ .dp x.1 (i * 64) us T1 β D S ob hh hr (hf.le hs.l) (fun z hz => hn z.1 (gi.2 z hz).1)
      exact owned v r _ _ _ us x.2 T1 T2 hs h2 (fun z hz => by have := gi.2 z hz; omega) ⟨β1, D1, S1, g1, dr_of g2 (fun _ _ h => vr_noskip h) (give_len κ .dp x.1 _) hp, g2, g3⟩ fun ov h => ⟨us, ov, rfl, hp, H.len _ _ _ _ _ hh, h⟩
    | c e d =>
      obtain ⟨v, r, T1, T2, rfl, hh, h2, hs⟩ := hA
      have hh' : ∃ A c, [v] = [Value.slice A x.1.length c] ∧ OwnSl w e.n (HL (H Z w (bif d then .dp else .rd) e) x.1) A x.1.length c T1 := by
        cases d <;> exact hh
      obtain ⟨A, c, hv, hO⟩ := hh'
      cases hv
      have hn0 := hn (i * 64) (Nat.le_refl _)
      have hnD : ∀ o, D o → o ≠ i * 64 := fun o dd e => hr.dom o dd (e ▸ hn0)
      have hf1 := hf.le hs.l
      have hvr : VR (X0 P n W w Z) (upd β (i * 64) ⟨0, 0, A, x.1.length, c, e.n⟩) (fun o => D o ∨ o = i * 64) Z w (.arr (i * 64)) (.slice A x.1.length c) := ⟨.inr rfl, by rw [upd_same]⟩
      have hdr : DR (VR (X0 P n W w Z) (upd β (i * 64) ⟨0, 0, A, x.1.length, c, e.n⟩) (fun o => D o ∨ o = i * 64) Z w) (.v false [.arr (i * 64)]) (.slice A x.1.length c) := hvr
      refine owned _ r (.v false [.arr (i * 64)]) [(i * 64, .arr e d false x.1)] [] [] x.2 T1 T2 hs h2 (fun z hz => ?_) ⟨_, _, _, hr.new (i * 64) hn0 ⟨0, 0, A, x.1.length, c, e.n⟩ (.arr e d false x.1) (by simp) T1 hf1.f hf1.b hf1.z (fun o _ => hf1.s o) ?_, hdr, trivial, fun o dd => ⟨.inl dd, upd_ne _ _ (hnD o dd)⟩, fun o b' j s => ?_⟩ fun ov h => h
      · rw [List.mem_singleton.1 hz]; exact ⟨Nat.le_refl _, by show i * 64 < (i + 1) * 64; omega⟩
      · show _ ∧ _ ∧ _
        rw [upd_same]
        exact ⟨rfl, rfl, hO⟩
      · by_cases e : o = i * 64
        · subst e; rw [upd_same] at s; exact .inr s
        · rw [upd_ne _ _ e] at s; exact .inl s
    | z e =>
      obtain ⟨A, r, rfl, h2⟩ := hA
      exact plain _ r _ x T (CS.le.refl _) h2 (fun β' D' _ => ⟨A, rfl⟩) fun ov h => h
    | f p q =>
      obtain ⟨v, r, rfl, hfn, h2⟩ := hA
      exact plain v r _ x.2 T (CS.le.refl _) h2 (fun β' D' _ => hfn) fun ov h => h
end
end Go.Dn
/- What a function leaves; what a function's code is worth: a contract. -/
set_option linter.unusedVariables false
namespace Go.Dn

theorem mapM_run {α β : Type} {P : Program} {w : World} {f : α → Sem β} {xs0 : Array α} {vs : List β} (hl : vs.length = xs0.size) (h : ∀ i (hi : i < xs0.size) (hv : i < vs.length), (f xs0[i]).run P w = .ok vs[i] w) : (xs0.mapM f).run P w = .ok vs.toArray w := by
  have key : ∀ (l : List α) (us : List β), us.length = l.length → (∀ i (hi : i < l.length) (hv : i < us.length), (f l[i]).run P w = .ok us[i] w) → (l.mapM f).run P w = .ok us w := by
    intro l
    induction l with
    | nil =>
      intro us hl _
      match us, hl with
      | [], _ => rfl
    | cons x l ih =>
      intro us hl h
      match us, hl with
      | u :: us, hl =>
        have h0 := h 0 (by simp) (by simp)
        simp only [List.getElem_cons_zero] at h0
        rw [List.mapM_cons]
        simp only [Sem.run_bind, h0, Result.andThen_ok]
        rw [ih us (by simpa using hl) fun i hi hv => by
          have := h (i + 1) (by simpa using hi) (by simpa using hv)
          simpa using this]
        rfl
  rw [Array.mapM_eq_mapM_toList, map_eq_pure_bind]
  simp only [Sem.run_bind]
  rw [key xs0.toList vs (by simpa using hl) fun i hi hv => by simpa using h i (by simpa using hi) hv]
  rfl

section
variable {X : Cx} {β : Nat → Pl} {D : Nat → Prop} {S : Nat → CS} {Z : CS} {outs : List CV} {a : Act} {w : World} {st : St}
theorem results_run {fn : Func} {tmps : Array Value} {P : Program} {vs : List Value} (hl : vs.length = fn.results.size)
    (h : ∀ i (hi : i < fn.results.size) (hv : i < vs.length), (match fn.results[i] with | .tmp t => (pure (tmps.getD t undef) : Sem Value) | .cell a t => (do loadVar t (← asAddr (tmps.getD a undef)))).run P w = .ok vs[i] w) : (results fn tmps).run P w = .ok (resV vs) w := by
  unfold results
  rw [Sem.run_bind, mapM_run hl (fun i hi hv => by
    have := h i hi hv
    revert this
    generalize fn.results[i] = r
    cases r <;> exact fun h => h)]
  simp only [Result.andThen_ok, Sem.run_pure]
  congr 1
  match vs with
  | [] => rfl
  | [v] => rfl
  | _ :: _ :: _ => rfl
theorem resultM_sound (hr : RelAt X β D S Z st.slot st.ob outs a w) {E : Env} (hE : TysOk X.P E) {r : ResultVar} {κ : K} {cs : List CV} (h : (resultM E st r κ).ev st.ob = some cs) :
    ∃ v us, (match r with | .tmp t => (pure (a.tmps.getD t undef) : Sem Value) | .cell b t => (do loadVar t (← asAddr (a.tmps.getD b undef)))).run X.P w = .ok v w ∧ pk κ us v ∧ All2 (VR X β D Z w) cs us := by
  cases r with
  | tmp t =>
    obtain ⟨us, h1, h2⟩ := dr_as (hr.slots t) h
    exact ⟨_, us, rfl, h1, h2⟩
  | cell b t =>
    simp only [resultM] at h
    obtain ⟨κ', h1, h2⟩ := ev_bind_some h
    obtain ⟨rfl, h3⟩ := ev_eqK h2
    obtain ⟨c, h4, h5⟩ := ev_bind_some h3
    have ht := hE.1 _ _ (ev_ofO h1)
    have hc := dr_cell_ok (hr.slots b) h4 (fun e => by rw [e] at h5; cases h5) (fun e => by rw [e] at h5; cases h5)
    obtain ⟨h6, us, h7, h8, b', off, hv, h9⟩ := loadM_sound hr hc h5
    have hrun : ∀ v, (loadVar t ⟨b', off, none⟩).run X.P w = .ok v w → (do loadVar t (← asAddr (a.tmps.getD b undef)) : Sem Value).run X.P w = .ok v w := fun v hv' => by
      rw [hv]
      simp [asAddr, hv']
    cases hk : κ'.agg with
    | true =>
      refine ⟨.agg us.toArray, us, hrun _ ?_, by simp [pk, hk], h8⟩
      have := run_loadCells_list (P := X.P) w ⟨b', off, none⟩ us fun j v hj => by rw [addr_add]; exact h9 j v hj
      rw [h7] at this
      simp [loadVar, run_isAgg' ht, run_sizeOf' ht, hk, this]
    | false =>
      have h10 : κ'.n = 1 := agg_cells hk
      rw [h10] at h7
      match us, h7, h8, h9 with
      | [u], _, h8, h9 =>
        refine ⟨u, [u], hrun u ?_, by simp [pk, hk], h8⟩
        have := h9 0 u rfl
        simp at this
        simp [loadVar, run_isAgg' ht, hk, this]
theorem resultsM_sound (hr : RelAt X β D S Z st.slot st.ob outs a w) {E : Env} (hE : TysOk X.P E) : ∀ (rv : List ResultVar) (rs : List (K × Q)) (y : Sig.Res rs × List Nat × List Nat), (resultsM E st rv rs).ev st.ob = some y → y.2.1.Nodup → (∀ o ∈ y.2.2, o ∉ y.2.1) →
    ∃ vs T Z', vs.length = rv.length ∧ (∀ (i : Nat) r v, rv[i]? = some r → vs[i]? = some v → (match r with | .tmp t => (pure (a.tmps.getD t undef) : Sem Value) | .cell b t => (do loadVar t (← asAddr (a.tmps.getD b undef)))).run X.P w = .ok v w) ∧ ResR Z' w rs y.1 vs T ∧
      T.le (US S y.2.1) ∧ Z.le Z' ∧ Z'.le (Z.or (US S (y.2.1 ++ y.2.2))) ∧ T.apart Z'
  | [], [], y, h, _, _ => by
    cases h
    exact ⟨[], CS.no, Z, rfl, fun i r v h => (by simp at h), rfl, CS.no_le _, CS.le.refl _, CS.le_l _ _, CS.no_apart _⟩
  | [], _ :: _, y, h, _, _ => by cases h
  | _ :: _, [], y, h, _, _ => by cases h
  | r :: rv, (κ, q) :: rs, y, h, hnd, hap => by
    simp only [resultsM] at h
    obtain ⟨cs, h1, h2⟩ := ev_bind_some h
    obtain ⟨x, h3, h4⟩ := ev_bind_some h2
    obtain ⟨y2, h5, h6⟩ := ev_bind_some h4
    cases h6
    simp only at hnd hap
    have n0 := List.nodup_append.1 hnd
    obtain ⟨v, us, k1, k2, k3⟩ := resultM_sound hr hE h1
    obtain ⟨T1, Z1, g⟩ := ofAll_sound hr h3 k3 n0.1 (fun o ho h => hap o (List.mem_append.2 (.inl ho)) (List.mem_append.2 (.inl h)))
    obtain ⟨vs, T2, Z2, q1, q2, q3, q4, q5, q6, q7⟩ := resultsM_sound hr hE rv rs y2 h5 n0.2.1 (fun o ho h => hap o (List.mem_append.2 (.inr ho)) (List.mem_append.2 (.inr h)))
    have hdd : ∀ o ∈ x.dead, o ∉ y2.2.1 := fun o h h' => n0.2.2 o h o h' rfl
    refine ⟨v :: vs, T1.or T2, Z1.or Z2, by simp [q1], fun i r' v' hr' hv' => ?_, ⟨v, us, vs, T1, T2, rfl, k2, H.more (CS.le_l _ _) _ _ _ _ _ g.h, ResR.more (CS.le_r _ _) _ _ _ _ q3, CS.le_l _ _, CS.le_r _ _, (US.apart hr hdd).mono g.t q4⟩, ?_, g.z.trans (CS.le_l _ _), ?_, ?_⟩
    · cases i with
      | zero => simp at hr' hv'; subst hr'; subst hv'; exact k1
      | succ i => exact q2 i r' v' (by simpa using hr') (by simpa using hv')
    · exact CS.or_le (g.t.trans (US.le fun o h => List.mem_append.2 (.inl h))) (q4.trans (US.le fun o h => List.mem_append.2 (.inr h)))
    · exact CS.or_le (g.z'.trans (CS.or_le (CS.le_l _ _) ((US.le fun o h => by simp at h ⊢; rcases h with h | h; exact .inl h; exact .inr (.inr (.inl h))).trans (CS.le_r _ _)))) (q6.trans (CS.or_le (CS.le_l _ _) ((US.le fun o h => by simp at h ⊢; rcases h with h | h; exact .inr (.inl h); exact .inr (.inr (.inr h))).trans (CS.le_r _ _))))
    · refine CS.or_apart (CS.apart_or g.d (two_apart hr g.t q6 fun o ho h => ?_)) (CS.apart_or (two_apart hr q4 g.z' fun o ho h => ?_) q7)
      · rcases List.mem_append.1 h with h | h
        · exact hdd o ho h
        · exact hap o (List.mem_append.2 (.inr h)) (List.mem_append.2 (.inl ho))
      · rcases List.mem_append.1 h with h | h
        · exact hdd o h ho
        · exact hap o (List.mem_append.2 (.inl h)) (List.mem_append.2 (.inr ho))
theorem outP_sound (hr : RelAt X β D S Z st.slot st.ob outs a w) : ∀ (ps : List PM) (cs : List CV) (vs ov : List Value) (y : Sig.OutP ps × List Nat × List Nat), (outPM ps cs).ev st.ob = some y → All2 (VR X β D Z w) cs ov → OVR ps vs ov → y.2.1.Nodup → (∀ o ∈ y.2.2, o ∉ y.2.1) →
    ∃ T Z', OutsR Z' w ps y.1 vs T ∧ T.le (US S y.2.1) ∧ Z.le Z' ∧ Z'.le (Z.or (US S (y.2.1 ++ y.2.2))) ∧ T.apart Z' := by
  intro ps
  induction ps with
  | nil =>
    intro cs vs ov y h hall ho hnd hap
    match cs with
    | [] => cases h; exact ⟨CS.no, Z, trivial, CS.no_le _, CS.le.refl _, CS.le_l _ _, CS.no_apart _⟩
    | _ :: _ => cases h
  | cons p ps ih =>
    intro cs vs ov y h hall ho hnd hap
    cases p with
    | b κ =>
      match vs, ho with
      | v :: vs, ho => exact ih cs vs ov y h hall ho hnd hap
    | r κ =>
      match vs, ho with
      | v :: vs, ho => exact ih cs vs ov y h hall ho hnd hap
    | c e d =>
      match vs, ho with
      | v :: vs, ho => exact ih cs vs ov y h hall ho hnd hap
    | q κ e =>
      match vs, ho with
      | v :: vs, ho => exact ih cs vs ov y h hall ho hnd hap
    | rr κ =>
      match vs, ho with
      | v :: vs, ho => exact ih cs vs ov y h hall ho hnd hap
    | z e =>
      match vs, ho with
      | v :: vs, ho => exact ih cs vs ov y h hall ho hnd hap
    | f p q =>
      match vs, ho with
      | v :: vs, ho => exact ih cs vs ov y h hall ho hnd hap
    | p κ q q' =>
      match vs, ho with
      | v :: vs, ⟨r, e, ho'⟩ =>
        subst e
        clear ho
        have ho := ho'
        have hcs : ∃ o cs1, cs = .box o 0 :: cs1 := by
          match cs with
          | [] => cases h
          | c :: cs1 =>
            cases c <;> try (cases h; done)
            rename_i o j
            cases j with
            | zero => exact ⟨o, cs1, rfl⟩
            | succ j => cases h
        obtain ⟨o, cs1, rfl⟩ := hcs
        · obtain ⟨⟨hD, hv⟩, hall⟩ := hall
          simp only [outPM] at h
          simp only [M.ev] at h
          split at h
          · rename_i c hoc
            obtain ⟨x, h3, h4⟩ := ev_bind_some h
            obtain ⟨y2, h5, h6⟩ := ev_bind_some h4
            cases h6
            simp only at hnd hap
            have hob := hr.objs o
            rw [hoc] at hob
            obtain ⟨us0, g1, g2⟩ := gather (R := fun c v => VR X β D Z w c v) (w := w) (b := (β o).b) c (β o).j fun i c' hi => by
              obtain ⟨_, v, h1, h2⟩ := hob i c' hi; exact ⟨v, h1.1, h2⟩
            have n0 := List.nodup_cons.1 hnd
            have n1 := List.nodup_append.1 n0.2
            have hdd : ∀ o ∈ x.dead, o ∉ y2.2.1 := fun o h h' => n1.2.2 o h o h' rfl
            obtain ⟨T1, Z1, g⟩ := ofAll_sound hr h3 g1 n1.1 (fun o ho h => hap o (List.mem_append.2 (.inl ho)) (.tail _ (List.mem_append.2 (.inl h))))
            obtain ⟨T2, Z2, q3, q4, q5, q6, q7⟩ := ih cs1 vs r y2 h5 hall ho n1.2.1 (fun o ho h => hap o (List.mem_append.2 (.inr ho)) (.tail _ (List.mem_append.2 (.inr h))))
            have hox : o ∉ x.dead := fun h => n0.1 (List.mem_append.2 (.inl h))
            have hoy : o ∉ y2.2.1 := fun h => n0.1 (List.mem_append.2 (.inr h))
            have hT1 : (CS.or (S o) T1).le (US S (o :: x.dead)) := CS.or_le (fun b i hh => ⟨o, .head _, hh⟩) (g.t.trans (US.le fun z hz => .tail _ hz))
            refine ⟨(CS.or (S o) T1).or T2, Z1.or Z2, ⟨(β o).b, (β o).j, vs, _, T2, by rw [hv, Nat.add_zero], ⟨us0, T1, H.more (CS.le_l _ _) _ _ _ _ _ g.h, CS.le_r _ _, fun i u hi => ?_⟩, OutsR.more (CS.le_r _ _) _ _ _ _ q3, CS.le_l _ _, CS.le_r _ _, ?_⟩, ?_, g.z.trans (CS.le_l _ _), ?_, ?_⟩
            · have hlt : i < c.length := by rw [g1.len]; exact (List.getElem?_eq_some_iff.1 hi).1
              obtain ⟨k1, v', k2, k3⟩ := hob i c[i] (by simp [hlt])
              have e : v' = u := by have := g2 i u hi; rw [k2.1] at this; exact Option.some.inj this
              refine ⟨e ▸ k2, .inl k1, fun t => ?_⟩
              obtain ⟨z, hz, s⟩ := g.t _ _ t
              exact hr.apart o z (fun e => hox (e ▸ hz)) _ _ k1 s
            · exact (US.apart hr fun z hz h' => by
                rcases List.mem_cons.1 hz with e | hz
                · rw [e] at h'; exact hoy h'
                · exact hdd z hz h').mono hT1 q4
            · exact CS.or_le (hT1.trans (US.le fun z hz => by
                rcases List.mem_cons.1 hz with rfl | hz
                · exact .head _
                · exact .tail _ (List.mem_append.2 (.inl hz)))) (q4.trans (US.le fun z hz => .tail _ (List.mem_append.2 (.inr hz))))
            · exact CS.or_le (g.z'.trans (CS.or_le (CS.le_l _ _) ((US.le fun z h => by simp at h ⊢; rcases h with h | h; exact .inr (.inl h); exact .inr (.inr (.inr (.inl h)))).trans (CS.le_r _ _)))) (q6.trans (CS.or_le (CS.le_l _ _) ((US.le fun z h => by simp at h ⊢; rcases h with h | h; exact .inr (.inr (.inl h)); exact .inr (.inr (.inr (.inr h)))).trans (CS.le_r _ _))))
            · refine CS.or_apart (CS.or_apart (CS.apart_or ?_ ?_) (CS.apart_or g.d ?_)) (CS.apart_or ?_ q7)
              · exact two_apart hr (I1 := [o]) (fun b i hh => ⟨o, .head _, hh⟩) g.z' fun z hz h => by
                  rw [List.mem_singleton.1 hz] at h
                  rcases List.mem_append.1 h with h | h
                  · exact hox h
                  · exact hap o (List.mem_append.2 (.inl h)) (.head _)
              · exact two_apart hr (I1 := [o]) (fun b i hh => ⟨o, .head _, hh⟩) q6 fun z hz h => by
                  rw [List.mem_singleton.1 hz] at h
                  rcases List.mem_append.1 h with h | h
                  · exact hoy h
                  · exact hap o (List.mem_append.2 (.inr h)) (.head _)
              · exact two_apart hr g.t q6 fun z hz h => by
                  rcases List.mem_append.1 h with h | h
                  · exact hdd z hz h
                  · exact hap z (List.mem_append.2 (.inr h)) (.tail _ (List.mem_append.2 (.inl hz)))
              · exact two_apart hr q4 g.z' fun z hz h => by
                  rcases List.mem_append.1 h with h | h
                  · exact hdd z h hz
                  · exact hap z (List.mem_append.2 (.inl h)) (.tail _ (List.mem_append.2 (.inr hz)))
          · cases h
    | m κ =>
      match vs, ho with
      | v :: vs, ⟨us, r, e, hp, hl, ho'⟩ =>
        subst e
        clear ho
        have ho := ho'
        simp only [outPM] at h
        obtain ⟨c, h1, h2⟩ := ev_bind_some h
        obtain ⟨x, h3, h4⟩ := ev_bind_some h2
        obtain ⟨y2, h5, h6⟩ := ev_bind_some h4
        cases h6
        obtain ⟨rfl, hlc⟩ := ev_takeN h1
        simp only at hnd hap
        have n0 := List.nodup_append.1 hnd
        have hdd : ∀ o ∈ x.dead, o ∉ y2.2.1 := fun o h h' => n0.2.2 o h o h' rfl
        have a1 := hall.take κ.n
        have a2 := hall.drop κ.n
        rw [← hl] at a1 a2
        simp only [List.take_left, List.drop_left] at a1 a2
        rw [hl] at a1 a2
        obtain ⟨T1, Z1, g⟩ := ofAll_sound hr h3 a1 n0.1 (fun o ho h => hap o (List.mem_append.2 (.inl ho)) (List.mem_append.2 (.inl h)))
        obtain ⟨T2, Z2, q3, q4, q5, q6, q7⟩ := ih _ vs r y2 h5 a2 ho n0.2.1 (fun o ho h => hap o (List.mem_append.2 (.inr ho)) (List.mem_append.2 (.inr h)))
        refine ⟨T1.or T2, Z1.or Z2, ⟨v, us, vs, T1, T2, rfl, hp, H.more (CS.le_l _ _) _ _ _ _ _ g.h, OutsR.more (CS.le_r _ _) _ _ _ _ q3, CS.le_l _ _, CS.le_r _ _, (US.apart hr hdd).mono g.t q4⟩, ?_, g.z.trans (CS.le_l _ _), ?_, ?_⟩
        · exact CS.or_le (g.t.trans (US.le fun o h => List.mem_append.2 (.inl h))) (q4.trans (US.le fun o h => List.mem_append.2 (.inr h)))
        · exact CS.or_le (g.z'.trans (CS.or_le (CS.le_l _ _) ((US.le fun o h => by simp at h ⊢; rcases h with h | h; exact .inl h; exact .inr (.inr (.inl h))).trans (CS.le_r _ _)))) (q6.trans (CS.or_le (CS.le_l _ _) ((US.le fun o h => by simp at h ⊢; rcases h with h | h; exact .inr (.inl h); exact .inr (.inr (.inr h))).trans (CS.le_r _ _))))
        · refine CS.or_apart (CS.apart_or g.d (two_apart hr g.t q6 fun o ho h => ?_)) (CS.apart_or (two_apart hr q4 g.z' fun o ho h => ?_) q7)
          · rcases List.mem_append.1 h with h | h
            · exact hdd o ho h
            · exact hap o (List.mem_append.2 (.inr h)) (List.mem_append.2 (.inl ho))
          · rcases List.mem_append.1 h with h | h
            · exact hdd o h ho
            · exact hap o (List.mem_append.2 (.inl h)) (List.mem_append.2 (.inr ho))
end
theorem look_slots {R : DV → Value → Prop} (hu : ∀ v, R (.v false [.und]) v) : ∀ (l : List (Nat × DV)) (vs : List Value) (i t : Nat), All2 (fun s v => R s.2 v) l vs → l.map (·.1) = List.range' i l.length → R (look (.v false [.und]) l t) ((vs[t - i]?).getD undef)
  | [], vs, i, t, h, hk => hu _
  | (j, d) :: l, [], i, t, h, hk => (h : False).elim
  | (j, d) :: l, v :: vs, i, t, ⟨h1, h2⟩, hk => by
    simp only [List.map_cons, List.length_cons, List.range'_succ] at hk
    have e1 := (List.cons.inj hk).1
    have e2 := (List.cons.inj hk).2
    subst e1
    simp only [look]
    cases hb : Nat.beq j t with
    | true =>
      have := Nat.eq_of_beq_eq_true hb
      subst this
      simpa using h1
    | false =>
      simp only [cond_false]
      by_cases hlt : j < t
      · have := look_slots hu l vs (j + 1) t h2 e2
        rwa [show t - j = (t - (j + 1)) + 1 by omega, List.getElem?_cons_succ]
      · have hno : look (.v false [.und]) l t = .v false [.und] := by
          have : ∀ (l : List (Nat × DV)) (i : Nat), l.map (·.1) = List.range' i l.length → t < i → look (.v false [.und]) l t = .v false [.und] := by
            intro l
            induction l with
            | nil => intro _ _ _; rfl
            | cons x l ih =>
              intro i hk hi
              simp only [List.map_cons, List.length_cons, List.range'_succ] at hk
              have e1 := (List.cons.inj hk).1
              simp only [look]
              rw [beq_ne (by omega)]
              exact ih (i + 1) (List.cons.inj hk).2 (by omega)
          refine this l (j + 1) e2 ?_
          have hne : j ≠ t := fun e => by rw [e, beq_self] at hb; cases hb
          omega
        rw [hno]; exact hu _
theorem contract_of {P : Program} {E : Env} {k : Nat} (hE : EnvOk P E k) {f : FuncId} {fn : Func} {c : Code} (hf : P.funcs[f]? = some fn) (hb : fn.body = some c) (hname : (fn.name == "runtime.NumGoroutine") = false) {sg : Sig} {hd : Hints} {ls : List (Nat × Lp sg.Out)} (hl : LoopsOk E k hd ls (loopsOf c)) {F : Sig.In sg.ps → Option sg.Out}
    (hF : ∀ x, denFn E k fn sg hd (runL k hd ls) x = F x) : Contract P f sg F := by
  refine ⟨fn, hf, by rw [hb]; rfl, hname, fun x y hy w Z W vs hZb hWb hWZ hA => ?_⟩
  rw [← hF] at hy
  unfold denFn at hy
  rw [hb] at hy
  simp only at hy
  cases hchk : (dstsOk fn.ntmps c && (Nat.ble sg.ps.length fn.ntmps && psOk sg.ps)) with
  | false => rw [hchk] at hy; cases hy
  | true =>
    rw [hchk] at hy
    simp only [Bool.and_eq_true] at hchk
    simp only [cond_true] at hy
    have hlen := hA.len
    have hnt := Nat.le_of_ble_eq_true hchk.2.1
    refine calls_of_wp hf hb ?_
    have hsz : (vs.toArray ++ Array.replicate (fn.ntmps - vs.toArray.size) undef).size = fn.ntmps := by simp; omega
    have hr0 : RelAt (X0 P fn.ntmps W w Z) (fun _ => ⟨0, 0, none, 0, 0, 0⟩) (fun _ => False) (fun _ => CS.no) Z (fun _ => .v false [.und]) (fun _ => .non) [] { tmps := vs.toArray ++ Array.replicate (fn.ntmps - vs.toArray.size) undef, defers := [] } w :=
      ⟨hsz, rfl, fun _ => trivial, fun _ => trivial, trivial, fun _ h => h.elim, fun _ _ _ => CS.no_apart _, fun _ => CS.no_apart _, fun _ => ⟨CS.no_le _, fun _ _ h => h.elim⟩, fun b j z => .inl z, hZb, CS.le.refl _, Agr.refl _ _⟩
    obtain ⟨β, D, S, ov, k1, k2, k3, k4, k5, _⟩ := entryAll_sound sg.ps 0 x vs W _ _ _ _ hchk.2.2 hA (CS.le.refl _) hr0 ⟨fun b j t => .inl t, hWb, hWZ, fun _ => CS.apart_no _⟩ (fun _ _ => rfl)
    let X : Cx := ⟨P, fn.ntmps, W, w, Z, ov⟩
    have hlk := k2.len
    have hrE : Rel X (entry sg.ps x) { tmps := vs.toArray ++ Array.replicate (fn.ntmps - vs.toArray.size) undef, defers := [] } w := by
      refine ⟨β, D, S, Z, ?_⟩
      have eob : (entry sg.ps x).ob = updAll (fun _ => OB.non) (entryAll 0 sg.ps x).2.1 := by
        funext i
        show look .non (entryAll 0 sg.ps x).2.1 i = _
        exact look_updAll _ i (entry_nodup sg.ps 0 x hchk.2.2).1
      constructor
      · exact k1.size
      · rfl
      · intro t
        show DR _ (look _ (entryAll 0 sg.ps x).1 t) _
        have h1 := look_slots (R := DR (VR X β D Z w)) (fun v => trivial) (entryAll 0 sg.ps x).1 vs 0 t (All2.imp (fun s v h => DR.imp (fun c v h => vr_ov [] ov h) _ _ h) _ _ k2) (by rw [k3, hlk, hlen])
        have e : (vs.toArray ++ Array.replicate (fn.ntmps - vs.toArray.size) undef).getD t undef = (vs[t - 0]?).getD undef := by
          rw [Array.getD_eq_getD_getElem?, Nat.sub_zero]
          by_cases ht : t < vs.length
          · rw [Array.getElem?_append_left (by simpa using ht)]; simp
          · rw [Array.getElem?_append_right (by simpa using ht), Array.getElem?_replicate, List.getElem?_eq_none (by omega)]
            split <;> rfl
        simp only
        rw [e]; exact h1
      · intro o
        rw [eob]
        exact or_ov [] ov (k1.objs o)
      · exact All2.imp (fun c v h => vr_ov [] ov h) _ _ k4
      · intro o d
        rw [eob]
        exact k1.dom o d
      · exact k1.apart
      · exact k1.sz
      · exact k1.sin
      · exact k1.zin
      · exact k1.zbd
      · exact k1.z0
      · exact k1.agr
    refine den_sound (X := X) hE c hchk.1 hl _ _ _ w _ hy hrE fun e st a w' hr hc0 => ?_
    have hc : finish E sg fn.results.toList st = some y := by
      cases e with
      | normal => exact hc0
      | ret => exact hc0
      | exit id => cases hc0
    have hex : e = .normal ∨ e = .ret := by
      cases e with
      | normal => exact .inl rfl
      | ret => exact .inr rfl
      | exit id => exact absurd hc0 (by simp [hard])
    obtain ⟨β', D', S', Z', hr⟩ := hr
    unfold finish at hc
    obtain ⟨y', lg, h1, h2⟩ := M.run_some _ _ _ _ hc
    cases h2
    obtain ⟨x1, h3, h4⟩ := ev_bind_some h1
    obtain ⟨y1, h5, h6⟩ := ev_bind_some h4
    cases hck : (nodupN (x1.2.1 ++ y1.2.1) && apartN (x1.2.2 ++ y1.2.2) (x1.2.1 ++ y1.2.1)) with
    | false => rw [hck] at h6; cases h6
    | true =>
      rw [hck] at h6
      cases h6
      simp only [Bool.and_eq_true] at hck
      have hnd := nodupN_ok hck.1
      have hap := apartN_ok hck.2
      have n0 := List.nodup_append.1 hnd
      obtain ⟨rvs, T1, Z1, q1, q2, q3, q4, q5, q6, q7⟩ := resultsM_sound hr hE.ty _ _ x1 h3 n0.1 (fun o ho h => hap o (List.mem_append.2 (.inl ho)) (List.mem_append.2 (.inl h)))
      obtain ⟨T2, Z2, p3, p4, p5, p6, p7⟩ := outP_sound hr sg.ps st.outs vs ov y1 h5 hr.outs k5 n0.2.1 (fun o ho h => hap o (List.mem_append.2 (.inr ho)) (List.mem_append.2 (.inr h)))
      have hdd : ∀ o ∈ x1.2.1, o ∉ y1.2.1 := fun o h h' => n0.2.2 o h o h' rfl
      have hSF : ∀ (l : List Nat) b j, US S' l b j → W b j ∨ w.heap.size ≤ b := fun l b j ⟨o, _, s⟩ => (hr.sin o).1 b j s
      have hSB : ∀ (l : List Nat) b j, US S' l b j → b < w'.heap.size := fun l b j ⟨o, _, s⟩ => (hr.sin o).2 b j s
      have hZF : ∀ b j, Z' b j → Z b j ∨ W b j ∨ w.heap.size ≤ b := fun b j z => hr.zin b j z
      have hrun : (results fn a.tmps).run P w' = .ok (resV rvs) w' := results_run (by rw [q1]; simp) fun i hi hv => q2 i _ _ (by simp [hi]) (by simp [hv])
      have hpost : bodyPost P fn (fun e w'_1 => ∃ v rv Z' T1 T2, e = .returned v ∧ Ended Z W w sg vs (x1.1, y1.1) v w'_1 rv Z' T1 T2) .ret a w' := by
        refine ⟨hr.defers, _, hrun, _, rvs, Z1.or Z2, T1, T2, rfl, rfl, hr.agr, hr.z0.trans (q5.trans (CS.le_l _ _)), fun b j z => ?_, fun b j z => ?_, ResR.more (CS.le_l _ _) _ _ _ _ q3, OutsR.more (CS.le_r _ _) _ _ _ _ p3, (US.apart hr hdd).mono q4 p4, CS.apart_or q7 (two_apart hr q4 p6 fun o ho h => ?_), CS.apart_or (two_apart hr p4 q6 fun o ho h => ?_) p7, fun b j t => hSB _ b j (q4 b j t), fun b j t => hSB _ b j (p4 b j t), fun b j t => hSF _ b j (q4 b j t), fun b j t => hSF _ b j (p4 b j t)⟩
        · rcases z with z | z
          · rcases q6 b j z with z | z
            · exact hr.zbd b j z
            · exact hSB _ b j z
          · rcases p6 b j z with z | z
            · exact hr.zbd b j z
            · exact hSB _ b j z
        · rcases z with z | z
          · rcases q6 b j z with z | z
            · exact hZF b j z
            · exact .inr (hSF _ b j z)
          · rcases p6 b j z with z | z
            · exact hZF b j z
            · exact .inr (hSF _ b j z)
        · rcases List.mem_append.1 h with h | h
          · exact hdd o ho h
          · exact hap o (List.mem_append.2 (.inr h)) (List.mem_append.2 (.inl ho))
        · rcases List.mem_append.1 h with h | h
          · exact hdd o h ho
          · exact hap o (List.mem_append.2 (.inl h)) (List.mem_append.2 (.inr ho))
      rcases hex with rfl | rfl
      · exact hpost
      · exact hpost
where
  look_updAll : ∀ (l : List (Nat × OB)) (i : Nat), (l.map (·.1)).Nodup → look OB.non l i = updAll (fun _ => OB.non) l i := by
    intro l i hnd
    have key : ∀ (l : List (Nat × OB)) (f : Nat → OB), (l.map (·.1)).Nodup → updAll f l i = (if i ∈ l.map (·.1) then look OB.non l i else f i) := by
      intro l
      induction l with
      | nil => intro f _; rfl
      | cons x l ih =>
        intro f hnd
        obtain ⟨j, b⟩ := x
        simp only [List.map_cons] at hnd
        have n0 := List.nodup_cons.1 hnd
        show updAll (upd f j b) l i = _
        rw [ih _ n0.2]
        by_cases e : i = j
        · subst e
          rw [if_neg n0.1, if_pos (by simp), upd_same]
          simp [look]
        · rw [upd_ne _ _ e]
          have e2 : Nat.beq j i = false := beq_ne fun h => e h.symm
          simp only [List.map_cons, List.mem_cons, e, false_or, look, e2, cond_false]
    rw [key l _ hnd]
    split
    · rfl
    · rename_i h
      have : ∀ (l : List (Nat × OB)), i ∉ l.map (·.1) → look OB.non l i = .non := by
        intro l
        induction l with
        | nil => intro _; rfl
        | cons x l ih =>
          intro h
          simp only [List.map_cons, List.mem_cons, not_or] at h
          simp only [look]
          rw [beq_ne fun e => h.1 e.symm]
          exact ih h.2
      exact this l h
  give_nodup : ∀ (κ : K) (q : Q) (x : κ.T) (i : Nat), ((κ.give q x i).2.1.map (·.1)).Nodup
    | .int _, q, _, _ => by cases q <;> exact .nil
    | .bool, q, _, _ => by cases q <;> exact .nil
    | .str, q, _, _ => by cases q <;> exact .nil
    | .unit, q, _, _ => by cases q <;> exact .nil
    | .pair a b, q, x, i => by
      simp only [K.give, List.map_append]
      refine List.nodup_append.2 ⟨give_nodup a _ _ _, give_nodup b _ _ _, fun z hz z' hz' e => ?_⟩
      obtain ⟨p, hp, rfl⟩ := List.mem_map.1 hz
      obtain ⟨p', hp', rfl⟩ := List.mem_map.1 hz'
      have h1 := (give_ids a q.l x.1 i).2 p hp
      have h2 := (give_ids b q.r x.2 _).2 p' hp'
      omega
    | .sl _, q, _, _ => by cases q <;> simp [K.give]
  entry_nodup : ∀ (ps : List PM) (i : Nat) (x : Sig.In ps), psOk ps = true → ((entryAll i ps x).2.1.map (·.1)).Nodup ∧ ∀ z ∈ (entryAll i ps x).2.1, i * 64 ≤ z.1 := by
    intro ps
    induction ps with
    | nil => intro i x _; exact ⟨.nil, fun z hz => by cases hz⟩
    | cons p ps ih =>
      intro i x hps
      have hps2 : psOk ps = true := by unfold psOk at hps ⊢; simp only [List.all_cons, Bool.and_eq_true] at hps; exact hps.2
      have fin : ∀ (l r : List (Nat × OB)), (l.map (·.1)).Nodup → (∀ z ∈ l, i * 64 ≤ z.1 ∧ z.1 < (i + 1) * 64) → (r.map (·.1)).Nodup → (∀ z ∈ r, (i + 1) * 64 ≤ z.1) → ((l ++ r).map (·.1)).Nodup ∧ ∀ z ∈ l ++ r, i * 64 ≤ z.1 := fun l r h1 h2 h3 h4 => by
        refine ⟨?_, fun z hz => ?_⟩
        · rw [List.map_append]
          refine List.nodup_append.2 ⟨h1, h3, fun z hz z' hz' e => ?_⟩
          obtain ⟨p, hp, rfl⟩ := List.mem_map.1 hz
          obtain ⟨p', hp', rfl⟩ := List.mem_map.1 hz'
          have := h2 p hp
          have := h4 p' hp'
          omega
        · rcases List.mem_append.1 hz with hz | hz
          · exact (h2 z hz).1
          · have := h4 z hz; omega
      have plain : ∀ x2 : Sig.In ps, ((entryAll (i + 1) ps x2).2.1.map (·.1)).Nodup ∧ ∀ z ∈ (entryAll (i + 1) ps x2).2.1, i * 64 ≤ z.1 := fun x2 => by
        obtain ⟨h1, h2⟩ := ih (i + 1) x2 hps2
        exact ⟨h1, fun z hz => by have := h2 z hz; omega⟩
      cases p with
      | b κ => exact plain x.2
      | rr κ => exact plain x.2
      | r κ => exact plain x.2
      | z e => exact plain x
      | f p q => exact plain x.2
      | c e d =>
        obtain ⟨h1, h2⟩ := ih (i + 1) x.2 hps2
        exact fin [(i * 64, _)] _ (by simp) (fun z hz => by rw [List.mem_singleton.1 hz]; exact ⟨Nat.le_refl _, by show i * 64 < (i + 1) * 64; omega⟩) h1 h2
      | m κ =>
        have hk : 2 * κ.n ≤ 64 := by unfold psOk at hps; simp only [List.all_cons, Bool.and_eq_true] at hps; exact Nat.le_of_ble_eq_true hps.1
        obtain ⟨h1, h2⟩ := ih (i + 1) x.2 hps2
        have gi := give_ids κ .dp x.1 (i * 64)
        have gt := give_top κ .dp x.1 (i * 64)
        exact fin _ _ (give_nodup _ _ _ _) (fun z hz => by have := gi.2 z hz; omega) h1 h2
      | p κ q q' =>
        have hk : 2 * κ.n + 2 ≤ 64 := by unfold psOk at hps; simp only [List.all_cons, Bool.and_eq_true] at hps; exact Nat.le_of_ble_eq_true hps.1
        obtain ⟨h1, h2⟩ := ih (i + 1) x.2 hps2
        have gi := give_ids κ q x.1 (i * 64 + 2)
        have gt := give_top κ q x.1 (i * 64 + 2)
        refine fin ((i * 64, .box (κ.give q x.1 (i * 64 + 2)).1) :: (κ.give q x.1 (i * 64 + 2)).2.1) _ ?_ (fun z hz => ?_) h1 h2
        · rw [List.map_cons]
          refine List.nodup_cons.2 ⟨fun h => ?_, give_nodup _ _ _ _⟩
          obtain ⟨z, hz, e⟩ := List.mem_map.1 h
          have := (gi.2 z hz).1
          simp only at e
          omega
        · rcases List.mem_cons.1 hz with rfl | hz
          · exact ⟨Nat.le_refl _, by show i * 64 < (i + 1) * 64; omega⟩
          · have := gi.2 z hz; omega
      | q κ q =>
        have hk : 2 * κ.n + 2 ≤ 64 := by unfold psOk at hps; simp only [List.all_cons, Bool.and_eq_true] at hps; exact Nat.le_of_ble_eq_true hps.1
        obtain ⟨h1, h2⟩ := ih (i + 1) x.2 hps2
        have gi := give_ids κ q x.1 (i * 64 + 2)
        have gt := give_top κ q x.1 (i * 64 + 2)
        refine fin ((i * 64, .box (κ.give q x.1 (i * 64 + 2)).1) :: (κ.give q x.1 (i * 64 + 2)).2.1) _ ?_ (fun z hz => ?_) h1 h2
        · rw [List.map_cons]
          refine List.nodup_cons.2 ⟨fun h => ?_, give_nodup _ _ _ _⟩
          obtain ⟨z, hz, e⟩ := List.mem_map.1 h
          have := (gi.2 z hz).1
          simp only at e
          omega
        · rcases List.mem_cons.1 hz with rfl | hz
          · exact ⟨Nat.le_refl _, by show i * 64 < (i + 1) * 64; omega⟩
          · have := gi.2 z hz; omega
end Go.Dn
/- A law's arguments, read as values; a law's row, out of a contract. -/
set_option linter.unusedVariables false
namespace Go.Dn
open Go.RowKit Go.ChangeShapes Go.WideShapes

/-! ### Structs that are compared -/
def namesB : List Field → Bool
  | [] => true
  | f :: fs => !(f.name == "_") && namesB fs
def eqTypeB (P : Program) (t : TypeId) : Bool :=
  (!P.eqGuardType P.depth t) && ((!P.stoodInHeld t) && (match P.underlying t with
    | some (.struct fs) => namesB fs.toList
    | _ => false))
def eqsB (P : Program) (E : Env) : Bool := E.eqs.all (eqTypeB P)
theorem eqFields_run {P : Program} (w : World) (xs ys : Array Value) (d : Nat) : ∀ (κ : K) (fs : List Field) (i : Nat) (us us' : List Value) (b : Bool), (TyR P κ).2 fs i → namesB fs = true → xs.toList.drop i = us → ys.toList.drop i = us' → K.eatW κ us → eqVals us us' = some b →
    (Op.eqFields (d + 1) xs ys fs).run P w = .ok b w
  | .unit, fs, i, us, us', b, hf, hn, hx, hy, hu, he => by
    have : fs = [] := hf
    subst this
    match us, hu with
    | [], _ =>
      match us', he with
      | [], he => cases he; rfl
  | .pair a κ, fs, i, us, us', b, hf, hn, hx, hy, hu, he => by
    obtain ⟨f, r, rfl, h1, h2, h3, h4⟩ := hf
    simp only [namesB, Bool.and_eq_true, Bool.not_eq_true', beq_eq_false_iff_ne] at hn
    have one : ∀ (u u' : Value) (c : Bool) (us1 us1' : List Value) (t : Bool), us = u :: us1 → us' = u' :: us1' → a.n = 1 → a.agg = false → (Op.equalIn (d + 1) f.type u u').run P w = .ok c w → K.eatW κ us1 → eqVals us1 us1' = some t → b = (c && t) →
        (Op.eqFields (d + 1) xs ys (f :: r)).run P w = .ok b w := fun u u' c us1 us1' t e1 e2 hn1 hag he1 hw ht hb => by
      have x1 : xs[i]? = some u := by
        have := congrArg (fun l => l[0]?) (hx.trans e1)
        simpa using this
      have y1 : ys[i]? = some u' := by
        have := congrArg (fun l => l[0]?) (hy.trans e2)
        simpa using this
      have x2 : xs.toList.drop (i + 1) = us1 := by
        have := congrArg (List.drop 1) (hx.trans e1)
        simpa [List.drop_drop, Nat.add_comm] using this
      have y2 : ys.toList.drop (i + 1) = us1' := by
        have := congrArg (List.drop 1) (hy.trans e2)
        simpa [List.drop_drop, Nat.add_comm] using this
      rw [hn1] at h4
      have ih := eqFields_run w xs ys d κ r (i + 1) us1 us1' t h4 hn.2 x2 y2 hw ht
      have px : (part f.type xs f.offset).run P w = .ok u w := by simp [part, run_isAgg' h3, hag, h1, x1]
      have py : (part f.type ys f.offset).run P w = .ok u' w := by simp [part, run_isAgg' h3, hag, h1, y1]
      simp only [Op.eqFields, ne_eq, hn.1, not_false_eq_true, if_true, Sem.run_bind, px, py, Result.andThen_ok, he1]
      cases c with
      | true => simp [ih, hb]
      | false => simp [hb]
    match us, hu with
    | [], hu => cases a <;> exact hu.elim
    | u :: us1, hu =>
      match us', he with
      | [], he => cases u <;> cases he
      | u' :: us1', he =>
        cases a <;> cases u <;> first | exact (hu : False).elim | skip
        case int.int k k1 n1 =>
          cases u' <;> first | (cases he; done) | skip
          rename_i k2 n2
          simp only [eqVals] at he
          split at he
          · rename_i e
            subst e
            cases ht : eqVals us1 us1' with
            | none => rw [ht] at he; cases he
            | some t =>
              rw [ht] at he
              exact one _ _ _ _ _ t rfl rfl rfl rfl (run_equalIn_int w d _ _ _ _ _ h3.1) hu ht (Option.some.inj he).symm
          · cases he
        case bool.bool b1 =>
          cases u' <;> first | (cases he; done) | skip
          simp only [eqVals] at he
          cases ht : eqVals us1 us1' with
          | none => rw [ht] at he; cases he
          | some t =>
            rw [ht] at he
            exact one _ _ _ _ _ t rfl rfl rfl rfl (run_equalIn_bool' w d _ _ _ h3.1) hu ht (Option.some.inj he).symm
        case str.string s1 =>
          cases u' <;> first | (cases he; done) | skip
          simp only [eqVals] at he
          cases ht : eqVals us1 us1' with
          | none => rw [ht] at he; cases he
          | some t =>
            rw [ht] at he
            refine one _ _ _ _ _ t rfl rfl rfl rfl (run_equalIn_string w d _ _ _ h3.1) hu ht ?_
            rw [← beq_toListBytes]; exact (Option.some.inj he).symm
  | .int _, fs, i, us, us', b, hf, _, _, _, _, _ => hf.elim
  | .bool, fs, i, us, us', b, hf, _, _, _, _, _ => hf.elim
  | .str, fs, i, us, us', b, hf, _, _, _, _, _ => hf.elim
  | .sl _, fs, i, us, us', b, hf, _, _, _, _, _ => hf.elim
theorem eqsB_spec {P : Program} {E : Env} (hE : TysOk P E) (h : eqsB P E = true) : EqsOk P E := fun t κ hm hk => by
  have ht := hE.1 t κ hk
  have := List.all_eq_true.1 h t ((memN_iff _ _).1 hm)
  simp only [eqTypeB, Bool.and_eq_true, Bool.not_eq_true'] at this
  obtain ⟨h1, h2, h3⟩ := this
  refine ⟨h1, fun us us' b w hu he => ?_⟩
  split at h3
  · rename_i fs hfs
    have hfo : P.fieldsOf t = fs := by simp [Program.fieldsOf, hfs]
    rw [run_equalIn_struct w 9999 t us us' (by rw [hfo]; exact hfs) h2, hfo]
    cases κ with
    | pair a k2 =>
      obtain ⟨fs', f, r, k1, _, e2, k3, k4, k5, k6⟩ := ht
      rw [hfs] at k1
      cases k1
      exact eqFields_run w us us' 9998 (.pair a k2) fs.toList 0 _ _ b ⟨f, r, e2, k3, k4, k5, by simpa using k6⟩ h3 (by simp) (by simp) hu he
    | unit => exact ht.elim
    | _ => exact (hu : False).elim
  · cases h3

/-! ### Arguments, read -/
/-- Numbers of their kinds. -/
def K.wf : (κ : K) → κ.T → Prop
  | .int k, n => (Lit.int k n).wf = true
  | .pair a b, x => a.wf x.1 ∧ b.wf x.2
  | .sl e, l => ∀ y ∈ l, e.wf y
  | _, _ => True
/-- How much it holds. -/
def K.big : (κ : K) → κ.T → Nat
  | .str, s => s.size
  | .pair a b, x => a.big x.1 + b.big x.2
  | .sl e, l => (l.map fun y => e.big y + 1).sum
  | _, _ => 0
structure BulkOk {H : Type} (bulk : DataW H → Nat) (all : List (DataW H) → Nat) : Prop where
  int : ∀ k n, bulk (.lit (.int k n)) = 1
  bool : ∀ b, bulk (.lit (.bool b)) = 1
  str : ∀ b, bulk (.lit (.string b)) = b.length + 1
  nil : bulk .nil = 1
  slice : ∀ e s, bulk (.slice e s) = all e + all s + 1
  agg : ∀ p, bulk (.agg p) = all p + 1
  anil : all [] = 0
  acons : ∀ d r, all (d :: r) = bulk d + all r

section
variable {H0 : Type} {enc : TypeId × Value → H0} {P : Program} {w : World} {base : Nat} {spare : Nat → Bool} {held : Bool} {Z : CS} {bulk : DataW H0 → Nat} {all : List (DataW H0) → Nat}
theorem cells_n {κ : K} {t : TypeId} (h : TyOk P κ t) : P.cellsOf t = κ.n := by
  obtain ⟨i, h1, h2, _⟩ := h.info
  simp [Program.cellsOf, h1, h2]
theorem cell_spot {a : Addr} {v : Value} (h : w.cell? a = some v) : a.spot = none := by
  unfold World.cell? at h
  split at h
  · split at h
    · cases h
    · rename_i hs
      cases e : a.spot with
      | none => rfl
      | some s => rw [e] at hs; simp at hs
  · cases h
/-- What reads as a row of elements, from element i on. -/
theorem open_row (hZ : ∀ b j v, w.cell? ⟨b, j, none⟩ = some v → Z b j) {e : K} (a0 : Addr) (D : Nat → DataW H0) (hbulk : BulkOk bulk all) :
    ∀ (n i : Nat), (∀ j, j < n → ∃ (cs : List Value) (y : e.T), w.cells? base (a0.add ((i + j) * e.n)) e.n = some cs ∧ H Z w .rd e y cs CS.no ∧ e.wf y ∧ e.big y + 1 ≤ bulk (D (i + j))) →
      ∃ (ys : List e.T) (cs : List Value), ys.length = n ∧ HL (H Z w .rd e) ys cs CS.no ∧ cs.length = n * e.n ∧ (∀ (j : Nat) u, cs[j]? = some u → w.cell? (a0.add (i * e.n + j)) = some u) ∧ (∀ y ∈ ys, e.wf y) ∧ (ys.map fun y => e.big y + 1).sum ≤ all ((List.range' i n).map D)
  | 0, i, _ => ⟨[], [], rfl, rfl, by simp, fun j u h => (by simp at h), fun y h => (by cases h), by simp⟩
  | n + 1, i, h => by
    obtain ⟨cs, y, h1, h2, h3, h4⟩ := h 0 (by omega)
    obtain ⟨ys, cs', k1, k2, k3, k4, k5, k6⟩ := open_row hZ a0 D hbulk n (i + 1) fun j hj => by
      have := h (j + 1) (by omega)
      rwa [show i + (j + 1) = i + 1 + j by omega] at this
    obtain ⟨_, hl, hc⟩ := World.cells?_some h1
    refine ⟨y :: ys, cs ++ cs', by simp [k1], ⟨cs, cs', CS.no, CS.no, rfl, h2, k2, Sep.none _⟩, by simp [hl, k3, Nat.add_mul]; omega, fun j u hj => ?_, fun z hz => ?_, ?_⟩
    · by_cases hlt : j < e.n
      · rw [List.getElem?_append_left (by omega)] at hj
        have := hc j hlt
        rw [hj] at this
        rw [Nat.add_zero] at this
        rwa [Deep.add_add] at this
      · rw [List.getElem?_append_right (by omega), hl] at hj
        have := k4 (j - e.n) u hj
        rwa [show (i + 1) * e.n + (j - e.n) = i * e.n + j by rw [Nat.add_mul]; omega] at this
    · rcases List.mem_cons.1 hz with rfl | hz
      · exact h3
      · exact k5 z hz
    · rw [List.map_cons, List.sum_cons, List.range'_succ, List.map_cons, hbulk.acons]
      simp only [Nat.add_zero] at h4
      omega
theorem open_kind (hZ : ∀ b j v, w.cell? ⟨b, j, none⟩ = some v → Z b j) (hbulk : BulkOk bulk all) : ∀ (κ : K),
    (∀ t fuel cs x, TyOk P κ t → DataW.trod enc P w base spare held fuel t cs = some x → ∃ y : κ.T, H Z w .rd κ y cs CS.no ∧ κ.wf y ∧ κ.big y + 1 ≤ bulk x.1) ∧
    (∀ (fs : List Field) (off n : Nat) (cs : List Value) (xs : List (DataW H0 × List MemPlace)), (TyR P κ).2 fs off → xs.length = fs.length → (∀ (i : Nat) (f : Field), fs[i]? = some f → DataW.trod enc P w base spare held n f.type ((cs.drop f.offset).take (P.cellsOf f.type)) = xs[i]?) →
      ∃ y : κ.T, H Z w .rd κ y ((cs.drop off).take κ.n) CS.no ∧ κ.wf y ∧ κ.big y ≤ all (xs.map (·.1)))
  | .int k => ⟨fun t fuel cs x ht h => by
      obtain ⟨n, rfl, rfl, hw⟩ := DataW.trod_int ht.1 h
      exact ⟨n, by simp [H], hw, by show 0 + 1 ≤ bulk (.lit (.int k n)); rw [hbulk.int]; exact Nat.le_refl _⟩, fun _ _ _ _ _ h => h.elim⟩
  | .bool => ⟨fun t fuel cs x ht h => by
      obtain ⟨b, rfl, rfl⟩ := DataW.trod_bool ht.1 h
      exact ⟨b, by simp [H], trivial, by show 0 + 1 ≤ bulk (.lit (.bool b)); rw [hbulk.bool]; exact Nat.le_refl _⟩, fun _ _ _ _ _ h => h.elim⟩
  | .str => ⟨fun t fuel cs x ht h => by
      obtain ⟨s, rfl, rfl, hs⟩ := DataW.trod_string ht.1 h
      exact ⟨s, by simp [H], trivial, by show s.size + 1 ≤ bulk (.lit (.string s.data.toList)); rw [hbulk.str]; simp⟩, fun _ _ _ _ _ h => h.elim⟩
  | .unit => ⟨fun _ _ _ _ h => h.elim, fun fs off n cs xs hf hl h => ⟨(), by simp [H, K.n], trivial, Nat.zero_le _⟩⟩
  | .pair a b => by
    have two : ∀ (fs : List Field) (off n : Nat) (cs : List Value) (xs : List (DataW H0 × List MemPlace)), (TyR P (.pair a b)).2 fs off → xs.length = fs.length → (∀ (i : Nat) (f : Field), fs[i]? = some f → DataW.trod enc P w base spare held n f.type ((cs.drop f.offset).take (P.cellsOf f.type)) = xs[i]?) →
        ∃ y : (K.pair a b).T, H Z w .rd (.pair a b) y ((cs.drop off).take (K.pair a b).n) CS.no ∧ (K.pair a b).wf y ∧ (K.pair a b).big y ≤ all (xs.map (·.1)) := fun fs off n cs xs hf hl h => by
      obtain ⟨f, r, rfl, h1, h2, h3, h4⟩ := hf
      match xs, hl with
      | x :: xs, hl =>
        have h0 := h 0 f rfl
        rw [cells_n h3, h1] at h0
        obtain ⟨y1, k1, k2, k3⟩ := (open_kind hZ hbulk a).1 _ _ _ _ h3 h0
        obtain ⟨y2, k4, k5, k6⟩ := (open_kind hZ hbulk b).2 r (off + a.n) n cs xs h4 (by simpa using hl) fun i f' hi => by
          have := h (i + 1) f' (by simpa using hi)
          simpa using this
        refine ⟨(y1, y2), ⟨_, _, CS.no, CS.no, ?_, k1, k4, Sep.none _⟩, ⟨k2, k5⟩, ?_⟩
        · simp only [K.n]
          rw [List.take_add, List.drop_drop]
        · rw [List.map_cons, hbulk.acons]
          simp only [K.big]
          omega
    refine ⟨fun t fuel cs x ht h => ?_, two⟩
    obtain ⟨fs, f, r, h1, hinfo, h2, h3, h4, h5, h6⟩ := ht
    have hcell : P.cellsOf t = a.n + b.n := by
      obtain ⟨i, k1, k2, _⟩ := hinfo
      simp [Program.cellsOf, k1, k2]
    obtain ⟨xs, n, rfl, rfl, hl, hxl, hx⟩ := DataW.trod_struct h1 h
    obtain ⟨y, k1, k2, k3⟩ := two fs.toList 0 n cs xs ⟨f, r, h2, h3, h4, h5, by simpa using h6⟩ (by simpa using hxl) fun i f' hi => hx i f' (by simpa using hi)
    refine ⟨y, ?_, k2, by show _ ≤ bulk (.agg (xs.map (·.1))); rw [hbulk.agg]; omega⟩
    rw [List.drop_zero, List.take_of_length_le (by rw [hl, hcell]; exact Nat.le_refl _)] at k1
    exact k1
  | .sl e => ⟨fun t fuel cs x ht h => by
      obtain ⟨t', h1, h2, h3⟩ := TyOk.slice ht
      have hc := cells_n h3
      rcases Deep.open_slice h1 h with ⟨rfl, rfl⟩ | ⟨a0, len, cap, m, n, D, Pl, rfl, hb, hl, hm, hmm, rfl, hx⟩
      · exact ⟨[], ⟨none, 0, rfl, Nat.le_refl _, fun h => absurd h (Nat.lt_irrefl _)⟩, fun y h => (by cases h), by show 0 + 1 ≤ bulk .nil; rw [hbulk.nil]; exact Nat.le_refl _⟩
      · have hlm : len ≤ m := by rw [hmm]; split <;> omega
        obtain ⟨ys, cs, k1, k2, k3, k4, k5, k6⟩ := open_row (base := base) hZ a0 D hbulk (e := e) len 0 fun j hj => by
          obtain ⟨cs', q1, q2⟩ := hx j (by omega)
          obtain ⟨y, q3, q4, q5⟩ := (open_kind hZ hbulk e).1 _ _ _ _ h3 q2
          rw [hc] at q1
          exact ⟨cs', y, by simpa using q1, q3, q4, by simpa using q5⟩
        refine ⟨ys, ⟨some a0, cap, by rw [k1], by omega, fun hp => ?_⟩, k5, ?_⟩
        · have hlen : 0 < cs.length := by rw [k3]; exact Nat.mul_pos (by omega) h2
          obtain ⟨u, hu⟩ : ∃ u, cs[0]? = some u := ⟨cs[0], by simp [hlen]⟩
          have hsp : a0.spot = none := by
            have := cell_spot (k4 0 u hu)
            unfold Addr.add at this
            split at this
            · exact this
            · rename_i hne; simp at hne
          obtain ⟨g, off, sp⟩ := a0
          simp only at hsp
          subst hsp
          refine ⟨g, off, cs, rfl, k2, fun j u hj => ?_⟩
          have := k4 j u hj
          rw [addr_add, Nat.zero_mul, Nat.zero_add] at this
          exact ⟨hZ _ _ _ this, this⟩
        · show (ys.map fun y => e.big y + 1).sum + 1 ≤ bulk (.slice _ _)
          rw [hbulk.slice]
          rw [List.range_eq_range']
          omega, fun _ _ _ _ _ h => h.elim⟩
/-- All old memory. -/
def Old (w : World) : CS := fun b _ => b < w.heap.size
theorem Old.cell {w : World} {b j : Nat} {v : Value} (h : w.cell? ⟨b, j, none⟩ = some v) : Old w b j := by
  obtain ⟨_, _, _, hb, _⟩ := heap_of_cell? h
  exact lt_of_heap hb
theorem open_arg {r : Reach} {b0 : Nat} (hbulk : BulkOk bulk all) {κ : K} {t : TypeId} (ht : TyOk P κ t) {v : Value} {d : DataW H0} {p : List MemPlace} (hv : Value.okWide P w r b0 t v) (h : DataW.Trod enc P w base spare held t v d p) :
    ∃ (y : κ.T) (us : List Value), pk κ us v ∧ H (Old w) w .rd κ y us CS.no ∧ κ.wf y ∧ κ.big y + 1 ≤ bulk d := by
  obtain ⟨fuel, hf⟩ := h
  obtain ⟨y, h1, h2, h3⟩ := (open_kind (fun b j v hc => Old.cell hc) hbulk κ).1 t fuel _ _ ht hf
  refine ⟨y, v.cells.toList, ?_, h1, h2, h3⟩
  unfold pk
  cases hk : κ.agg with
  | true =>
    cases κ with
    | pair a b =>
      obtain ⟨fs, f, _, k1, _⟩ := ht
      obtain ⟨cs, rfl, _⟩ := okWide_struct k1 hv
      simp [Value.cells]
    | unit => exact ht.elim
    | _ => cases hk
  | false =>
    have hn := agg_cells hk
    have hl := H.len _ _ _ _ _ h1
    rw [hn] at hl
    simp only [Bool.false_eq_true, if_false]
    have h1' := H.one _ _ _ _ _ h1
    cases v with
    | agg cs =>
      cases κ with
      | int k => obtain ⟨n, hn⟩ := okWide_int ht.1 hv; cases hn
      | bool => obtain ⟨n, hn⟩ := okWide_bool ht.1 hv; cases hn
      | str => obtain ⟨n, hn⟩ := okWide_string ht.1 hv; cases hn
      | sl e => obtain ⟨t', h2, _⟩ := TyOk.slice ht; obtain ⟨_, _, _, hn⟩ := okWide_slice h2 hv; cases hn
      | unit => cases hk
      | pair a b => cases hk
    | tuple cs =>
      cases κ with
      | int k => obtain ⟨n, hn⟩ := okWide_int ht.1 hv; cases hn
      | bool => obtain ⟨n, hn⟩ := okWide_bool ht.1 hv; cases hn
      | str => obtain ⟨n, hn⟩ := okWide_string ht.1 hv; cases hn
      | sl e => obtain ⟨t', h2, _⟩ := TyOk.slice ht; obtain ⟨_, _, _, hn⟩ := okWide_slice h2 hv; cases hn
      | unit => cases hk
      | pair a b => cases hk
    | _ => rfl
theorem BulkOk.le {bulk : DataW H0 → Nat} {all : List (DataW H0) → Nat} (h : BulkOk bulk all) : ∀ (l : List (DataW H0)) (d : DataW H0), d ∈ l → bulk d ≤ all l
  | x :: l, d, hd => by
    rw [h.acons]
    rcases List.mem_cons.1 hd with rfl | hd
    · exact Nat.le_add_right _ _
    · exact Nat.le_trans (h.le l d hd) (Nat.le_add_left _ _)
theorem Agr.below {w w' : World} (h : Agr CS.no w w') : Below w.heap.size w w' := ⟨h.os, h.tape, h.output, h.size, fun _ hk => h.whole hk⟩
end

/-! ### Functions, one after another -/
def FnsL (P : Program) (k : Nat) : List (Nat × FEnt) → Prop
  | [] => True
  | x :: r => Contract P x.1 x.2.sg (x.2.F k) ∧ FnsL P k r
theorem FnsL.get {P : Program} {k : Nat} : ∀ {l : List (Nat × FEnt)}, FnsL P k l → ∀ f ent, findO l f = some ent → Contract P f ent.sg (ent.F k)
  | (j, x) :: r, h, f, ent, hf => by
    simp only [findO] at hf
    cases e : Nat.beq j f with
    | true =>
      rw [e] at hf
      cases hf
      have := Nat.eq_of_beq_eq_true e
      subst this
      exact h.1
    | false =>
      rw [e] at hf
      exact FnsL.get h.2 f ent hf
theorem ok_of {P : Program} {E : Env} {k : Nat} (hT : TysOk P E) (hQ : EqsOk P E) (hN : FnsL P k E.fns) {f : FuncId} {fn : Func} (hf : P.funcs[f]? = some fn) (hb : fn.body.isSome = true) (hname : (fn.name == "runtime.NumGoroutine") = false) {sg : Sig} {hd : Hints} {ls : List (Nat × Lp sg.Out)} (hl : LoopsOk E k hd ls (loopsOf (fn.body.getD .skip)))
    {F : Sig.In sg.ps → Option sg.Out} (hF : ∀ x, denFn E k fn sg hd (runL k hd ls) x = F x) : Contract P f sg F := by
  cases hbd : fn.body with
  | none => rw [hbd] at hb; cases hb
  | some c =>
    rw [hbd] at hl
    exact contract_of ⟨hT, hQ, hN.get⟩ hf hbd hname hl hF
/-- What a law's contract says of a call. -/
theorem law_of {P : Program} {f : FuncId} {ps : List PM} {q : Q} {F : Sig.In ps → Option (Sig.Out ⟨ps, [(.bool, q)]⟩)} (hC : Contract P f ⟨ps, [(.bool, q)]⟩ F) {x : Sig.In ps} {y : Sig.OutP ps} (hx : F x = some ((true, ()), y)) {w : World} {vs : List Value} (hA : ArgsR P (Old w) CS.no w ps x vs CS.no) :
    Calls P f vs.toArray w fun e w' => e = .returned (.bool true) ∧ Below w.heap.size w w' := by
  obtain ⟨fn, _, _, _, h⟩ := hC
  refine (h x _ hx w (Old w) CS.no vs (fun b j hb => hb) (fun _ _ t => t.elim) (CS.no_apart _) hA).mono fun e w' ⟨v, rv, Z', T1, T2, he, hE⟩ => ?_
  obtain ⟨v', us, r, T3, T4, e1, hp, hh, hr, _⟩ := hE.res
  simp only [ResR] at hr
  subst hr
  refine ⟨?_, hE.agr.below⟩
  rw [he, hE.v, e1]
  have : us = [.bool true] := by cases q <;> simpa only [H] using hh
  subst this
  have : [Value.bool true] = [v'] := hp
  rw [show v' = .bool true from (List.cons.inj this).1.symm]
  rfl
end Go.Dn
/- Plain lemmas about what the generated functions are made of. -/
set_option linter.unusedVariables false
namespace Go.Dn

theorem share_eq {β ρ : Type} (a : β) (k : β → Option ρ) : Go.Dn.share a k = k a := rfl
theorem w64 {n : Int} (h1 : -9223372036854775808 ≤ n) (h2 : n ≤ 9223372036854775807) : IntKind.wrap .i64 n = n := IntWalk.i64_in n ⟨h1, h2⟩
theorem w8 {n : Int} (h1 : 0 ≤ n) (h2 : n ≤ 255) : IntKind.wrap .u8 n = n := IntWalk.u8_in n ⟨h1, h2⟩
theorem w8_mod (n : Int) : IntKind.wrap .u8 n = n % 256 := by rw [IntKind.wrap_u8]
theorem w8_wf (n : Int) : 0 ≤ IntKind.wrap .u8 n ∧ IntKind.wrap .u8 n ≤ 255 := by rw [w8_mod]; omega
theorem wu64 {n : Int} (h1 : 0 ≤ n) (h2 : n ≤ 18446744073709551615) : IntKind.wrap .u64 n = n := by
  simp [IntKind.wrap, IntKind.bits, IntKind.signed]; omega
theorem inB_eq {i : Int} {n : Nat} (h1 : 0 ≤ i) (h2 : i < n) : inB i n = true := by simp [inB, h1, h2]
theorem inBn {i n : Nat} (h : i < n) : inB (i : Int) (n : Int) = true := by simp [inB, h]
theorem roomy_ok {n b : Nat} (h : n * b ≤ 140737488355328) : roomy n b = true := Nat.ble_eq_true_of_le h
theorem roomy_le {n b : Nat} (N : Nat) (h : n ≤ N) (hN : N * b ≤ 140737488355328) : roomy n b = true := roomy_ok (Nat.le_trans (Nat.mul_le_mul_right b h) hN)
theorem lit_i64 {n : Int} (h : (Lit.int .i64 n).wf = true) : -9223372036854775808 ≤ n ∧ n ≤ 9223372036854775807 := by
  simpa [Lit.wf, IntKind.min, IntKind.max, IntKind.signed, IntKind.bits] using h
theorem lit_u8 {n : Int} (h : (Lit.int .u8 n).wf = true) : 0 ≤ n ∧ n ≤ 255 := by
  simpa [Lit.wf, IntKind.min, IntKind.max, IntKind.signed, IntKind.bits] using h

/-! ### Loops -/
/-- A loop that counts up, with an invariant. -/
theorem loop_up {σ ρ : Type} {len : Nat} (L : Nat → Int → σ → Option ρ) (P : Nat → σ → Prop) (R : Nat → σ → Option ρ)
    (hend : ∀ n s, P len s → L (n + 1) (len : Int) s = R len s)
    (hstep : ∀ n i s, i < len → P i s → L (n + 1) (i : Int) s = R i s ∨ ∃ s', L (n + 1) (i : Int) s = L n ((i + 1 : Nat) : Int) s' ∧ P (i + 1) s' ∧ R i s = R (i + 1) s') :
    ∀ n i s, i ≤ len → P i s → len - i < n → L n (i : Int) s = R i s := by
  intro n
  induction n with
  | zero => intro i s _ _ h; omega
  | succ n ih =>
    intro i s hi hP hn
    by_cases e : i = len
    · subst e; exact hend n s hP
    · rcases hstep n i s (by omega) hP with h | ⟨s', h1, h2, h3⟩
      · exact h
      · rw [h1, h3]; exact ih (i + 1) s' (by omega) h2 (by omega)
/-- The same, to one end. -/
theorem loop_inv {σ ρ : Type} {len : Nat} (L : Nat → Int → σ → Option ρ) (P : Nat → σ → Prop) (E : Option ρ)
    (hend : ∀ n s, P len s → L (n + 1) (len : Int) s = E)
    (hstep : ∀ n i s, i < len → P i s → ∃ s', L (n + 1) (i : Int) s = L n ((i + 1 : Nat) : Int) s' ∧ P (i + 1) s') :
    ∀ n i s, i ≤ len → P i s → len - i < n → L n (i : Int) s = E :=
  loop_up L P (fun _ _ => E) hend fun n i s hi hP => by
    obtain ⟨s', h1, h2⟩ := hstep n i s hi hP
    exact .inr ⟨s', h1, h2, rfl⟩
theorem next_i {i : Nat} (h : i < 4611686018427387904) : IntKind.wrap .i64 ((i : Int) + 1) = ((i + 1 : Nat) : Int) := by
  rw [w64 (by omega) (by omega)]; omega
theorem lt_dec {i n : Nat} (h : i < n) : decide ((i : Int) < (n : Int)) = true := decide_eq_true (by omega)
theorem lt_dec_f (n : Nat) : decide ((n : Int) < (n : Int)) = false := decide_eq_false (by omega)
theorem ge_dec {i n : Nat} (h : ¬ i < n) : decide ((i : Int) < (n : Int)) = false := decide_eq_false (by omega)

/-! ### Sizes -/
theorem big_mem {e : K} : ∀ {l : List e.T} {y : e.T}, y ∈ l → e.big y + 1 ≤ K.big (.sl e) l
  | x :: l, y, h => by
    simp only [K.big, List.map_cons, List.sum_cons]
    rcases List.mem_cons.1 h with rfl | h
    · omega
    · have := big_mem h
      simp only [K.big] at this
      omega
theorem big_len {e : K} : ∀ (l : List e.T), l.length ≤ K.big (.sl e) l
  | [] => Nat.zero_le _
  | x :: l => by
    have := big_len l
    simp only [K.big, List.map_cons, List.sum_cons, List.length_cons] at this ⊢
    omega
theorem big_int (k : IntKind) (l : List Int) : K.big (.sl (.int k)) l = l.length := by
  induction l with
  | nil => rfl
  | cons x l ih => simp only [K.big, List.map_cons, List.sum_cons, List.length_cons] at ih ⊢; omega
theorem getD_get {α : Type} {l : List α} {i : Nat} (d : α) (h : i < l.length) : l.getD (Int.toNat (i : Int)) d = l[i] := by
  simp [List.getD, h]
theorem set_keep {α : Type} {l ys : List α} {i : Nat} {v : α} (hl : l.length = ys.length) (hi : i < ys.length) (hp : ∀ j, j < i → l[j]? = ys[j]?) (hv : ys[i]? = some v) : (l.set i v).length = ys.length ∧ ∀ j, j < i + 1 → (l.set i v)[j]? = ys[j]? := by
  refine ⟨by simpa using hl, fun j hj => ?_⟩
  by_cases e : j = i
  · subst e; rw [List.getElem?_set_self (by omega), hv]
  · rw [List.getElem?_set_ne (fun h => e h.symm)]; exact hp j (by omega)
theorem all_eq {α : Type} {l ys : List α} (hl : l.length = ys.length) (h : ∀ j, j < ys.length → l[j]? = ys[j]?) : l = ys := by
  refine List.ext_getElem? fun j => ?_
  by_cases hj : j < ys.length
  · exact h j hj
  · rw [List.getElem?_eq_none (by omega), List.getElem?_eq_none (by omega)]
theorem bigp (a b : K) (x : (K.pair a b).T) : (K.pair a b).big x = a.big x.1 + b.big x.2 := rfl
theorem bigi (k : IntKind) (x : Int) : (K.int k).big x = 0 := rfl
theorem bigb (x : Bool) : K.bool.big x = 0 := rfl
theorem bigu (x : Unit) : K.unit.big x = 0 := rfl
theorem bigs (x : ByteArray) : K.str.big x = x.size := rfl
/-- No string, no slice in it. -/
def K.plainB : K → Bool
  | .int _ => true
  | .bool => true
  | .unit => true
  | .pair a b => a.plainB && b.plainB
  | _ => false
theorem plain_big : ∀ (κ : K) (x : κ.T), κ.plainB = true → κ.big x = 0
  | .int _, _, _ => rfl
  | .bool, _, _ => rfl
  | .unit, _, _ => rfl
  | .pair a b, x, h => by
    simp only [K.plainB, Bool.and_eq_true] at h
    simp only [K.big, plain_big a x.1 h.1, plain_big b x.2 h.2]
  | .str, _, h => by cases h
  | .sl _, _, h => by cases h
theorem flat_big {e : K} (h : e.plainB = true) (l : List e.T) : K.big (.sl e) l = l.length := by
  induction l with
  | nil => rfl
  | cons x l ih => simp only [K.big, List.map_cons, List.sum_cons, List.length_cons, plain_big e x h] at ih ⊢; omega
/-- Numbers from k on. -/
def upto (f : Int → Int) (k : Int) : Nat → List Int
  | 0 => []
  | n + 1 => f k :: upto f (k + 1) n
theorem upto_len (f : Int → Int) : ∀ (n : Nat) (k : Int), (upto f k n).length = n
  | 0, _ => rfl
  | n + 1, k => by simp [upto, upto_len f n]
theorem upto_get (f : Int → Int) : ∀ (n : Nat) (k : Int) (i : Nat), i < n → (upto f k n)[i]? = some (f (k + i))
  | 0, _, i, h => by omega
  | n + 1, k, 0, h => by simp [upto]
  | n + 1, k, i + 1, h => by
    simp only [upto, List.getElem?_cons_succ]
    rw [upto_get f n (k + 1) i (by omega)]
    congr 2
    omega
theorem next_k {k : Int} {i : Nat} (h0 : 0 ≤ k) (h : k ≤ 1152921504606846976) (hi : i ≤ 1152921504606846976) : IntKind.wrap .i64 (k + (i : Int) + 1) = k + ((i + 1 : Nat) : Int) := by
  rw [w64 (by omega) (by omega)]; omega
theorem getD_set {α : Type} {t : List α} {i : Nat} {v : α} (d : α) (h : i < t.length) : (t.set i v).getD i d = v := by
  simp [List.getD, h]
theorem set_twice {α : Type} (t : List α) (i : Nat) (v v' : α) : (t.set i v).set i v' = t.set i v' := List.set_set ..
theorem getD_at {α : Type} {t : List α} {i : Nat} (d : α) (h : i < t.length) : t.getD i d = t[i] := by
  simp [List.getD, h]
theorem get_getD {α : Type} {t : List α} {i : Nat} {v : α} (d : α) (h : t[i]? = some v) : t.getD i d = v := by
  simp [List.getD, h]
def sumB {α : Type} (big : α → Nat) (l : List α) : Nat := (l.map fun y => big y + 1).sum
theorem sumB_mem {α : Type} (big : α → Nat) : ∀ {l : List α} {y : α}, y ∈ l → big y + 1 ≤ sumB big l
  | x :: l, y, h => by
    simp only [sumB, List.map_cons, List.sum_cons]
    rcases List.mem_cons.1 h with rfl | h
    · omega
    · have := sumB_mem big h
      simp only [sumB] at this
      omega
theorem sumB_len {α : Type} (big : α → Nat) : ∀ l : List α, l.length ≤ sumB big l
  | [] => Nat.zero_le _
  | x :: l => by
    have := sumB_len big l
    simp only [sumB, List.map_cons, List.sum_cons, List.length_cons] at this ⊢
    omega
/-- Marks in all elements, one after another: how far they count, what becomes of the list; and that they are found again. -/
theorem mark_all {α ρ σ : Type} (big : α → Nat) (B : Int) (N : Nat) (L : Nat → Int → Int → List α → Option ρ) (c0 : Int × List α × Unit → Option ρ) (H : Nat → List α → Int → Int → Option σ)
    (hend : ∀ (n : Nat) (s : Int) (t : List α), L (n + 1) s (t.length : Int) t = c0 (s, t, ()))
    (hstep : ∀ (n : Nat) (s : Int) (i : Nat) (t : List α) (hi : i < t.length), 0 ≤ s → s + 64 * (big t[i] + 1) ≤ B → big t[i] ≤ N → t.length ≤ N → ∃ v m, L (n + 1) s (i : Int) t = L n m ((i + 1 : Nat) : Int) (t.set i v) ∧ s ≤ m ∧ m ≤ s + 64 * (big t[i] + 1) ∧ big v = big t[i] ∧
      ∀ (n' : Nat) (u : List α), u[i]? = some v → u.length ≤ N → H (n' + 1) u s (i : Int) = H n' u m ((i + 1 : Nat) : Int)) :
    ∀ (d n i : Nat) (t : List α) (s : Int), t.length - i = d → d < n → i ≤ t.length → 0 ≤ s → s + 64 * (sumB big (t.drop i) : Int) ≤ B → sumB big t ≤ N →
      ∃ m ys, L n s (i : Int) t = c0 (m, ys, ()) ∧ s ≤ m ∧ m ≤ s + 64 * (sumB big (t.drop i) : Int) ∧ ys.length = t.length ∧ (∀ j, j < i → ys[j]? = t[j]?) ∧ sumB big (ys.drop i) = sumB big (t.drop i) ∧
        ∀ n', d < n' → H n' ys s (i : Int) = H (n' - d) ys m (ys.length : Int) := by
  intro d
  induction d with
  | zero =>
    intro n i t s hd hn hi h0 h1 hN
    obtain ⟨n, rfl⟩ : ∃ m, n = m + 1 := ⟨n - 1, by omega⟩
    obtain rfl : i = t.length := by omega
    exact ⟨s, t, hend n s t, Int.le_refl _, by omega, rfl, fun _ _ => rfl, rfl, fun n' _ => by rw [Nat.sub_zero]⟩
  | succ d ih =>
    intro n i t s hd hn hi h0 h1 hN
    obtain ⟨n, rfl⟩ : ∃ m, n = m + 1 := ⟨n - 1, by omega⟩
    have hi' : i < t.length := by omega
    have hm : big t[i] + 1 ≤ sumB big t := sumB_mem big (List.getElem_mem hi')
    have hlen : t.length ≤ sumB big t := sumB_len big t
    have hdr : sumB big (t.drop i) = (big t[i] + 1) + sumB big (t.drop (i + 1)) := by
      rw [List.drop_eq_getElem_cons hi']; rfl
    obtain ⟨v, m1, e1, l1, u1, b1, k1⟩ := hstep n s i t hi' h0 (by omega) (by omega) (by omega)
    have hset : (t.set i v).drop (i + 1) = t.drop (i + 1) := by
      rw [List.drop_set_of_lt (by omega)]
    have hbs : sumB big (t.set i v) = sumB big t := by
      have key : ∀ (t : List α) (i : Nat) (hi : i < t.length), big v = big t[i] → sumB big (t.set i v) = sumB big t := by
        intro t
        induction t with
        | nil => intro i hi; simp at hi
        | cons x t ih =>
          intro i hi hb
          cases i with
          | zero =>
            show (big v + 1) + sumB big t = (big x + 1) + sumB big t
            rw [hb]; rfl
          | succ i =>
            show (big x + 1) + sumB big (t.set i v) = (big x + 1) + sumB big t
            rw [ih i (by simpa using hi) (by simpa using hb)]
      exact key t i hi' b1
    obtain ⟨m2, ys, e2, l2, u2, g2, g3, g4, g5⟩ := ih n (i + 1) (t.set i v) m1 (by rw [List.length_set]; omega) (by omega) (by rw [List.length_set]; omega) (by omega) (by rw [hset]; omega) (by rw [hbs]; exact hN)
    rw [hset] at u2 g4
    rw [List.length_set] at g2
    have hy : ys[i]? = some v := by rw [g3 i (by omega), List.getElem?_set_self hi']
    have hyi : i < ys.length := by omega
    have hy2 : ys[i] = v := by
      have := List.getElem?_eq_getElem hyi
      rw [hy] at this
      exact (Option.some.inj this).symm
    refine ⟨m2, ys, by rw [e1, e2], by omega, by omega, g2, fun j hj => ?_, ?_, fun n' hn' => ?_⟩
    · rw [g3 j (by omega), List.getElem?_set_ne (by omega)]
    · have hdy : sumB big (ys.drop i) = (big ys[i] + 1) + sumB big (ys.drop (i + 1)) := by rw [List.drop_eq_getElem_cons hyi]; rfl
      rw [hdy, hdr, hy2, b1, g4]
    · obtain ⟨n', rfl⟩ : ∃ m, n' = m + 1 := ⟨n' - 1, by omega⟩
      rw [k1 n' ys hy (by omega), g5 n' (by omega)]
      congr 1
      omega
end Go.Dn
