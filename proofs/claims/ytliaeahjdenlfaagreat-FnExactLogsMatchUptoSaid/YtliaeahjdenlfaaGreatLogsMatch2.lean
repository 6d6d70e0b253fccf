/- FnExactLogsMatch: for every pair of bulk at most 1048576 the law returns true and its argument reads as before; no further condition. -/
import Derived.Deep.Slices
import Derived.Carry
import Derived.ProofKit
import Derived.OpenShut
import Derived.IntWalk
import Derived.Test.YtliaeahjdenlfaaGreatProg
import Derived.KernelRfl
import Derived.Test.YtliaeahjdenlfaaGreatLogsMatch0
import Derived.Test.YtliaeahjdenlfaaGreatLogsMatch1
/- States laid anew: fewer temporaries, objects numbered anew, nils as rows. -/
set_option linter.unusedVariables false
namespace Go.Dn

theorem look_only {α : Type} (d : α) (l : List Nat) : ∀ (r : List (Nat × α)) (i : Nat), look d (onlyN l r) i = look d r i ∨ look d (onlyN l r) i = d
  | [], i => .inl rfl
  | x :: r, i => by
    simp only [onlyN]
    cases hm : memN x.1 l with
    | true =>
      simp only [cond_true, look]
      cases hb : Nat.beq x.1 i with
      | true => exact .inl rfl
      | false => exact look_only d l r i
    | false =>
      simp only [cond_false, look]
      cases hb : Nat.beq x.1 i with
      | true =>
        right
        have e := Nat.eq_of_beq_eq_true hb
        subst e
        have : ∀ r : List (Nat × α), look d (onlyN l r) x.1 = d := by
          intro r
          induction r with
          | nil => rfl
          | cons y r ih =>
            simp only [onlyN]
            cases hy : memN y.1 l with
            | true =>
              simp only [cond_true, look]
              cases hb2 : Nat.beq y.1 x.1 with
              | true => rw [Nat.eq_of_beq_eq_true hb2, hm] at hy; cases hy
              | false => exact ih
            | false => exact ih
        exact this r
      | false => exact look_only d l r i
theorem RelAt.slots' {X : Cx} {β : Nat → Pl} {D : Nat → Prop} {S : Nat → CS} {Z : CS} {sl sl' : Nat → DV} {ob : Nat → OB} {outs : List CV} {a : Act} {w : World} (h : RelAt X β D S Z sl ob outs a w) (hs : ∀ t, DR (VR X β D Z w) (sl' t) (a.tmps.getD t undef)) : RelAt X β D S Z sl' ob outs a w :=
  { h with slots := hs }
theorem Rel.only {X : Cx} {st : St} {a : Act} {w : World} (h : Rel X st a w) (l : List Nat) : Rel X ⟨onlyN l st.slots, st.objs, st.outs⟩ a w := by
  obtain ⟨β, D, S, Z, h⟩ := h
  refine ⟨β, D, S, Z, h.slots' fun t => ?_⟩
  rcases look_only (.v false [.und]) l st.slots t with e | e
  · show DR _ (look _ (onlyN l st.slots) t) _
    rw [e]; exact h.slots t
  · show DR _ (look _ (onlyN l st.slots) t) _
    rw [e]; trivial

/-! ### Nils -/
theorem nilCell_sound {X : Cx} {β : Nat → Pl} {D : Nat → Prop} {S : Nat → CS} {Z : CS} {sl : Nat → DV} {outs : List CV} {a : Act} {w : World} {st : St} (hr : RelAt X β D S Z sl st.ob outs a w) {id : Nat} {κ : NilK} {c : CV} {x : CV × List (Nat × OB)} (h : nilCell st id κ c = some x) {v : Value} (hv : VR X β D Z w c v) :
    ∃ β' D' S' Z', RelAt X β' D' S' Z' sl (updAll st.ob x.2) outs a w ∧ VR X β' D' Z' w x.1 v ∧ (∀ o, D o → D' o ∧ β' o = β o) ∧ ∀ z ∈ x.2, z.1 = id ∧ st.ob id = .non ∨ ∃ e d f l, st.ob z.1 = .arr e d f l := by
  unfold nilCell at h
  split at h
  · rename_i e
    split at h
    · rename_i ho
      cases h
      obtain ⟨A, rfl⟩ := hv
      refine ⟨_, _, _, Z, hr.new id ho ⟨0, 0, A, 0, 0, e.n⟩ (.arr e true false []) (by simp) CS.no (CS.no_le _) (fun _ _ t => t.elim) (CS.no_apart _) (fun _ _ => CS.no_apart _) ?_, ⟨.inr rfl, by rw [upd_same]⟩, fun o d => ⟨.inl d, upd_ne _ _ fun e => hr.dom o d (e ▸ ho)⟩, fun z hz => ?_⟩
      · show _ ∧ _ ∧ _
        rw [upd_same]
        exact ⟨rfl, rfl, .inl ⟨rfl, rfl⟩⟩
      · rw [List.mem_singleton.1 hz]; exact .inl ⟨rfl, ho⟩
    · cases h
  · rename_i e
    cases h
    obtain ⟨A, rfl⟩ := hv
    exact ⟨β, D, S, Z, hr, ⟨A, 0, rfl, Nat.le_refl _, fun h => absurd h (Nat.lt_irrefl _)⟩, fun o d => ⟨d, rfl⟩, fun z hz => (by cases hz)⟩
  · rename_i o
    split at h
    · rename_i e d f l ho
      cases h
      obtain ⟨hD, hv⟩ := hv
      have hob := hr.objs o
      rw [ho] at hob
      obtain ⟨h1, h2, h3⟩ := hob.lens
      refine ⟨β, D, S, Z, hr, ⟨hD, (β o).A, (β o).c, ?_, by omega, by omega, by omega, by omega, by simp, .inr ?_⟩, fun o d => ⟨d, rfl⟩, fun z hz => (by cases hz)⟩
      · rw [hv, ← h1]; simp
      · cases (β o).A <;> simp [Addr.add]
    · cases h
  · rename_i o
    split at h
    · rename_i e d l ho
      cases h
      obtain ⟨hD, hv⟩ := hv
      have hob := hr.objs o
      rw [ho] at hob
      obtain ⟨h1, h2, h3⟩ := hob
      obtain ⟨T, N, h6, h7, h8, h9⟩ := OwnSl.weaken h3
      refine ⟨β, D, _, _, hr.set o (.arr e false false l) (by simp) CS.no T (Z.or N) (CS.no_le _) (Agr.refl _ _) h6 (CS.le_l _ _) (fun b j z => z.imp (fun h => h) (h7 b j)) (CS.apart_or ((hr.sz o).mono h6 (CS.le.refl _)) h8) ⟨h1, h2, h9⟩, ⟨hD, hv⟩, fun o d => ⟨d, rfl⟩, fun z hz => ?_⟩
      rw [List.mem_singleton.1 hz]; exact .inr ⟨e, d, false, l, ho⟩
    · cases h
  · cases h
theorem Rel.nilOne {X : Cx} {st : St} {a : Act} {w : World} (h : Rel X st a w) (id : Nat) (n : NilAt) : Rel X (Dn.nilOne st id n) a w := by
  unfold Dn.nilOne
  split
  · rename_i c hj hs
    split
    · rename_i x hx
      obtain ⟨β, D, S, Z, hr⟩ := h
      have hv := hr.slots n.t
      rw [hs] at hv
      have hc : c = .nil ∨ ∃ o, c = .arr o := by
        unfold nilCell at hx
        split at hx <;> first | exact .inl rfl | exact .inr ⟨_, rfl⟩ | cases hx
      have hv : VR X β D Z w c (a.tmps.getD n.t undef) := by
        rcases hc with rfl | ⟨o, rfl⟩ <;> exact hv
      obtain ⟨β', D', S', Z', k1, k2, k3, _⟩ := nilCell_sound hr hx hv
      have hx1 : DR (VR X β' D' Z' w) (.v false [x.1]) (a.tmps.getD n.t undef) := by
        generalize x.1 = y at k2
        cases y <;> first | exact k2 | trivial | exact (k2 : False).elim
      have e1 : ({ st with slots := put st.slots n.t (.v false [x.1]), objs := putAll st.objs x.2 } : St).ob = updAll st.ob x.2 := look_putAll _ _ _
      have e2 : ({ st with slots := put st.slots n.t (.v false [x.1]), objs := putAll st.objs x.2 } : St).slot = upd st.slot n.t (.v false [x.1]) := look_put _ _ _ _
      refine ⟨β', D', S', Z', ?_⟩
      rw [e1, e2]
      refine k1.slots' fun t => ?_
      by_cases e : t = n.t
      · subst e; rw [upd_same]; exact hx1
      · rw [upd_ne _ _ e]; exact k1.slots t
    · exact h
  · rename_i j o hj hs
    split
    · rename_i cs ho
      split
      · rename_i c hc
        split
        · rename_i x hx
          obtain ⟨β, D, S, Z, hr⟩ := h
          have hob := hr.objs o
          rw [ho] at hob
          obtain ⟨m1, v, m2, m3⟩ := hob j c hc
          obtain ⟨β', D', S', Z', k1, k2, k3, k4⟩ := nilCell_sound hr hx m3
          have hv := hr.slots n.t
          rw [hs] at hv
          obtain ⟨hDo, _⟩ := hv
          have hno : ∀ z ∈ x.2, z.1 ≠ o := fun z hz e => by
            rcases k4 z hz with ⟨h1, h2⟩ | ⟨_, _, _, _, h2⟩
            · rw [← h1, e, ho] at h2; cases h2
            · rw [e, ho] at h2; cases h2
          have e1 : ({ st with objs := putAll (put st.objs o (.box (splice cs j [x.1]))) x.2 } : St).ob = upd (updAll st.ob x.2) o (.box (splice cs j [x.1])) := by
            show look _ (putAll (put st.objs o _) x.2) = _
            rw [look_putAll, look_put]
            exact upd_updAll _ _ _ _ hno
          have ho' : updAll st.ob x.2 o = .box cs := by rw [updAll_out _ _ _ hno]; exact ho
          have hob' := k1.objs o
          rw [ho'] at hob'
          have hlt : j < cs.length := (List.getElem?_eq_some_iff.1 hc).1
          refine ⟨β', D', upd S' o (S' o), Z', ?_⟩
          rw [e1]
          refine k1.set o _ (by simp) CS.no (S' o) Z' (CS.no_le _) (Agr.refl _ _) (CS.le.refl _) (CS.le.refl _) (fun b j z => .inl z) (k1.sz o) ?_
          intro i c' hi
          rw [splice_get _ _ _ _ (by simp; omega)] at hi
          split at hi
          · rename_i hin
            have hij : i = j := by simp at hin; omega
            subst hij
            simp at hi
            subst hi
            obtain ⟨q1, _, q2, _⟩ := hob' i c hc
            refine ⟨q1, v, ?_, k2⟩
            obtain ⟨_, hb⟩ := k3 o hDo
            rw [hb]; exact m2
          · exact hob' i c' hi
        · exact h
      · exact h
    · exact h
  · exact h
theorem Rel.nilAll {X : Cx} {a : Act} {w : World} : ∀ (l : List NilAt) (id : Nat) (st : St), Rel X st a w → Rel X (Dn.nilAll l id st) a w
  | [], _, _, h => h
  | n :: r, id, st, h => Rel.nilAll r (id + 2) _ (h.nilOne id n)

/-! ### Objects numbered anew -/
theorem idxN_some : ∀ (l : List Nat) (o i k : Nat), idxN o l i = some k → ∃ j, k = i + 2 * j ∧ l[j]? = some o
  | [], o, i, k, h => by cases h
  | x :: r, o, i, k, h => by
    simp only [idxN] at h
    cases hb : Nat.beq x o with
    | true =>
      rw [hb] at h
      simp at h
      exact ⟨0, by omega, by simp [Nat.eq_of_beq_eq_true hb]⟩
    | false =>
      rw [hb] at h
      obtain ⟨j, h1, h2⟩ := idxN_some r o (i + 2) k h
      exact ⟨j + 1, by omega, by simpa using h2⟩
theorem reach_nodup (ob : Nat → OB) : ∀ (n : Nat) (todo seen : List Nat), seen.Nodup → (reach ob n todo seen).Nodup
  | 0, _, _, h => h
  | n + 1, [], seen, h => h
  | n + 1, o :: todo, seen, h => by
    simp only [reach]
    cases hm : memN o seen with
    | true => exact reach_nodup ob n todo seen h
    | false =>
      simp only [cond_false]
      cases hl : liveOB (ob o) with
      | true =>
        refine reach_nodup ob n _ _ (List.nodup_append.2 ⟨h, by simp, fun a ha b hb e => ?_⟩)
        rw [List.mem_singleton.1 hb] at e
        rw [(memN_iff seen o).2 (e ▸ ha)] at hm; cases hm
      | false => exact reach_nodup ob n todo seen h
theorem renAll_look (ob : Nat → OB) (seen : List Nat) : ∀ (l : List Nat) (i k : Nat), (∃ j o, k = i + 2 * j ∧ l[j]? = some o ∧ look .non (renAll ob seen l i) k = renOB seen (ob o)) ∨ ((∀ j, k = i + 2 * j → l.length ≤ j) ∧ look .non (renAll ob seen l i) k = .non)
  | [], i, k => .inr ⟨fun j _ => Nat.zero_le _, rfl⟩
  | x :: r, i, k => by
    simp only [renAll, look]
    cases hb : Nat.beq i k with
    | true => exact .inl ⟨0, x, by have := Nat.eq_of_beq_eq_true hb; omega, rfl, rfl⟩
    | false =>
      rcases renAll_look ob seen r (i + 2) k with ⟨j, o, h1, h2, h3⟩ | ⟨h1, h2⟩
      · exact .inl ⟨j + 1, o, by omega, by simpa using h2, h3⟩
      · refine .inr ⟨fun j hj => ?_, h2⟩
        cases j with
        | zero => rw [show i = k by omega, beq_self] at hb; cases hb
        | succ j => have := h1 j (by omega); simp; omega
theorem look_mapSlots (f : Nat → DV) (g : DV → DV) : ∀ (l : List Nat) (t : Nat), look (.v false [.und]) (l.map fun t => (t, g (f t))) t = g (f t) ∨ look (.v false [.und]) (l.map fun t => (t, g (f t))) t = .v false [.und]
  | [], t => .inr rfl
  | x :: l, t => by
    simp only [List.map_cons, look]
    cases hb : Nat.beq x t with
    | true => rw [Nat.eq_of_beq_eq_true hb]; exact .inl rfl
    | false => exact look_mapSlots f g l t
section
variable {X : Cx} {β : Nat → Pl} {D : Nat → Prop} {S : Nat → CS} {Z : CS} {w : World}
def newB (β : Nat → Pl) (seen : List Nat) : Nat → Pl := fun i => β (seen.getD (i / 2) 0)
def newD (D : Nat → Prop) (seen : List Nat) : Nat → Prop := fun i => ∃ j o, i = 2 * j ∧ seen[j]? = some o ∧ D o
def newS (S : Nat → CS) (seen : List Nat) : Nat → CS := fun i b j => ∃ k o, i = 2 * k ∧ seen[k]? = some o ∧ S o b j
theorem newB_at {β : Nat → Pl} {seen : List Nat} {j o : Nat} (h : seen[j]? = some o) : newB β seen (2 * j) = β o := by
  unfold newB
  rw [Nat.mul_div_cancel_left _ (by decide : 0 < 2), List.getD_eq_getElem?_getD, h]; rfl
theorem idx_new {seen : List Nat} {o i : Nat} (h : idxN o seen 0 = some i) (hd : D o) : newD D seen i ∧ newB β seen i = β o := by
  obtain ⟨j, h1, h2⟩ := idxN_some seen o 0 i h
  rw [Nat.zero_add] at h1
  subst h1
  exact ⟨⟨j, o, rfl, h2, hd⟩, newB_at h2⟩
theorem renCaps_new {seen : List Nat} : ∀ (caps l : List (Nat × Nat)), renCaps seen caps = some l → (∀ c ∈ caps, D c.1) → (∀ c ∈ l, newD D seen c.1) ∧ l.map (fun c => Value.pointer (some ⟨(newB β seen c.1).b, (newB β seen c.1).j + c.2, none⟩)) = caps.map fun c => Value.pointer (some ⟨(β c.1).b, (β c.1).j + c.2, none⟩)
  | [], l, h, _ => by cases h; exact ⟨fun c hc => (by cases hc), rfl⟩
  | (o, j) :: r, l, h, hD => by
    simp only [renCaps] at h
    split at h
    · rename_i i l' h1 h2
      cases h
      obtain ⟨k1, k2⟩ := renCaps_new r l' h2 fun c hc => hD c (.tail _ hc)
      obtain ⟨k3, k4⟩ := idx_new (β := β) h1 (hD (o, j) (.head _))
      refine ⟨fun c hc => ?_, ?_⟩
      · rcases List.mem_cons.1 hc with rfl | hc
        · exact k3
        · exact k1 c hc
      · simp only [List.map_cons, k2, k4]
    · cases h
theorem VR.ren {seen : List Nat} {c : CV} {v : Value} (h : VR X β D Z w c v) : VR X (newB β seen) (newD D seen) Z w (renCV seen c) v := by
  have h1 := h.one
  cases c <;> simp only [renCV]
  case arr o =>
    split
    · rename_i i hi
      obtain ⟨k1, k2⟩ := idx_new (β := β) hi h.1
      exact ⟨k1, by rw [k2]; exact h.2⟩
    · exact h1
  case sub o off len =>
    split
    · rename_i i hi
      obtain ⟨k1, k2⟩ := idx_new (β := β) hi h.1
      refine ⟨k1, ?_⟩
      rw [k2]; exact h.2
    · exact h1
  case box o j =>
    split
    · rename_i i hi
      obtain ⟨k1, k2⟩ := idx_new (β := β) hi h.1
      exact ⟨k1, by rw [k2]; exact h.2⟩
    · exact h1
  case el o n j =>
    split
    · rename_i i hi
      obtain ⟨k1, k2⟩ := idx_new (β := β) hi h.1
      refine ⟨k1, ?_⟩
      rw [k2]; exact h.2
    · exact h1
  case inn => exact (h : False).elim
  case iel => exact (h : False).elim
  case clo f caps =>
    split
    · rename_i l hl
      obtain ⟨k1, k2⟩ := renCaps_new (β := β) caps l hl h.2
      exact ⟨by rw [h.1, k2], k1⟩
    · exact h1
  all_goals exact h
theorem all2_ren {seen : List Nat} : ∀ (cs : List CV) (us : List Value), All2 (VR X β D Z w) cs us → All2 (VR X (newB β seen) (newD D seen) Z w) (cs.map (renCV seen)) us
  | [], [], _ => trivial
  | [], _ :: _, h => h
  | c :: cs, [], h => (h : False).elim
  | c :: cs, u :: us, ⟨h1, h2⟩ => ⟨h1.ren, all2_ren cs us h2⟩
theorem DR.ren {seen : List Nat} {d : DV} {v : Value} (h : DR (VR X β D Z w) d v) : DR (VR X (newB β seen) (newD D seen) Z w) (renDV seen d) v := by
  cases d with
  | tup ds => trivial
  | v b cs =>
    cases b with
    | true => obtain ⟨us, h1, h2⟩ := h; exact ⟨us, h1, all2_ren cs _ h2⟩
    | false =>
      match cs, h with
      | [], h => exact (h : False).elim
      | _ :: _ :: _, h => simp [DR, DR1] at h
      | [c], h =>
        by_cases h1 : c = .und
        · subst h1; trivial
        · by_cases h2 : c = .skip
          · subst h2; exact h
          · have hv : VR X β D Z w c v := by cases c <;> first | exact h | exact absurd rfl h1 | exact absurd rfl h2
            have := hv.ren (seen := seen)
            show DR _ (.v false [renCV seen c]) v
            generalize renCV seen c = c' at this
            cases c' <;> first | exact this | trivial | exact (this : False).elim
end
theorem Rel.canon {X : Cx} {st : St} {a : Act} {w : World} (h : Rel X st a w) (hd : Hd) : Rel X (Dn.canon hd st) a w := by
  have h0 := Rel.nilAll hd.nils 1000000001 st h
  unfold Dn.canon
  generalize Dn.nilAll hd.nils 1000000001 st = st1 at h0
  simp only
  generalize hseen : reach st1.ob 400 _ [] = seen
  have hnd : seen.Nodup := by rw [← hseen]; exact reach_nodup _ _ _ _ .nil
  obtain ⟨β, D, S, Z, hr⟩ := h0
  have hinj : ∀ j j' o, seen[j]? = some o → seen[j']? = some o → j = j' := fun j j' o h1 h2 => by
    have hj := (List.getElem?_eq_some_iff.1 h1).1
    exact (List.getElem?_inj hj hnd).1 (h1.trans h2.symm)
  refine ⟨newB β seen, newD D seen, newS S seen, Z, ?_⟩
  constructor
  · exact hr.size
  · exact hr.defers
  · intro t
    show DR _ (look _ ((hd.keep.map fun t => (t, st1.slot t)).map fun x => (x.1, renDV seen x.2)) t) _
    rw [List.map_map]
    rcases look_mapSlots st1.slot (renDV seen) hd.keep t with e | e
    · have : look (.v false [.und]) (hd.keep.map ((fun x => (x.1, renDV seen x.2)) ∘ fun t => (t, st1.slot t))) t = renDV seen (st1.slot t) := e
      rw [this]; exact (hr.slots t).ren
    · have : look (.v false [.und]) (hd.keep.map ((fun x => (x.1, renDV seen x.2)) ∘ fun t => (t, st1.slot t))) t = .v false [.und] := e
      rw [this]; trivial
  · intro i
    show OR _ _ _ _ _ i _ (look .non (renAll st1.ob seen seen 0) i)
    rcases renAll_look st1.ob seen seen 0 i with ⟨j, o, h1, h2, h3⟩ | ⟨_, h3⟩
    · rw [h3]
      rw [Nat.zero_add] at h1
      subst h1
      have hob := hr.objs o
      have hS : ∀ b k, S o b k → newS S seen (2 * j) b k := fun b k s => ⟨j, o, rfl, h2, s⟩
      generalize st1.ob o = b at hob
      cases b with
      | box cs =>
        intro k c hk
        rw [List.getElem?_map] at hk
        cases hc : cs[k]? with
        | none => rw [hc] at hk; cases hk
        | some c0 =>
          rw [hc] at hk
          cases hk
          obtain ⟨q1, v, q2, q3⟩ := hob k c0 hc
          rw [newB_at h2]
          exact ⟨hS _ _ q1, v, q2, q3.ren⟩
      | arr e d fr l =>
        cases fr with
        | false =>
          show _ ∧ _ ∧ _
          rw [newB_at h2]
          exact ⟨hob.1, hob.2.1, hob.2.2.imp (fun b k s => hS b k s) fun _ _ _ h => h⟩
        | true =>
          show _ ∧ _ ∧ _ ∧ _
          rw [newB_at h2]
          exact hob
      | hole => trivial
      | non => trivial
      | dead => trivial
    · rw [h3]; trivial
  · exact all2_ren _ _ hr.outs
  · rintro i ⟨j, o, rfl, h2, hDo⟩
    show look .non (renAll st1.ob seen seen 0) (2 * j) ≠ .non
    rcases renAll_look st1.ob seen seen 0 (2 * j) with ⟨j', o', h1, h3, h4⟩ | ⟨h1, _⟩
    · rw [h4]
      have : j' = j := by omega
      subst this
      rw [h2] at h3
      cases h3
      have := hr.dom o hDo
      generalize st1.ob o = b at this
      cases b <;> simp_all [renOB]
    · have := h1 j (by omega)
      have := (List.getElem?_eq_some_iff.1 h2).1
      omega
  · rintro i i' hne b k ⟨j, o, rfl, h2, s⟩ ⟨j', o', rfl, h2', s'⟩
    refine hr.apart o o' (fun e => ?_) b k s s'
    subst e
    exact hne (by rw [hinj j j' o h2 h2'])
  · rintro i b k ⟨j, o, rfl, h2, s⟩ z
    exact hr.sz o b k s z
  · intro i
    exact ⟨fun b k ⟨j, o, _, _, s⟩ => (hr.sin o).1 b k s, fun b k ⟨j, o, _, _, s⟩ => (hr.sin o).2 b k s⟩
  · exact hr.zin
  · exact hr.zbd
  · exact hr.z0
  · exact hr.agr
end Go.Dn
/- A function's code, with its loops. -/
set_option linter.unusedVariables false
namespace Go.Dn

/-! ### States of a shape are told by their leaves -/
theorem eqK_ok {a b : K} (h : eqK a b = true) : a = b := by
  unfold eqK at h
  split at h
  · assumption
  · cases h
theorem eqI_ok {a b : IntKind} (h : eqI a b = true) : a = b := by
  unfold eqI at h
  split at h
  · assumption
  · cases h
theorem eqB_ok {a b : Bool} (h : eqB a b = true) : a = b := by cases a <;> cases b <;> first | rfl | cases h
theorem shCaps_eq : ∀ (s a b : List (Nat × Nat)), shCaps s a = true → shCaps s b = true → a = b
  | [], [], [], _, _ => rfl
  | [], _ :: _, _, h, _ => by cases h
  | [], [], _ :: _, _, h => by cases h
  | _ :: _, [], _, h, _ => by cases h
  | _ :: _, _ :: _, [], _, h => by cases h
  | x :: s, y :: a, z :: b, h, h' => by
    simp only [shCaps, Bool.and_eq_true] at h h'
    have e1 := (Nat.eq_of_beq_eq_true h.1).symm.trans (Nat.eq_of_beq_eq_true h'.1)
    have e2 := (Nat.eq_of_beq_eq_true h.2.1).symm.trans (Nat.eq_of_beq_eq_true h'.2.1)
    rw [shCaps_eq s a b h.2.2 h'.2.2, Prod.ext e1 e2]
theorem shCV_eq {s a b : CV} (h : shCV s a = true) (h' : shCV s b = true) : (leavesCV a).length = (leavesCV b).length ∧ (leavesCV a = leavesCV b → a = b) := by
  cases s <;> cases a <;> first | (cases h; done) | (cases b <;> first | (cases h'; done) | skip)
  all_goals simp only [shCV, Bool.and_eq_true] at h h'
  case und.und.und => exact ⟨rfl, fun _ => rfl⟩
  case skip.skip.skip => exact ⟨rfl, fun _ => rfl⟩
  case int.int.int =>
    have e := (eqI_ok h).symm.trans (eqI_ok h')
    subst e
    exact ⟨rfl, fun h => by simp [leavesCV] at h; rw [h]⟩
  case bool.bool.bool => exact ⟨rfl, fun h => by simp [leavesCV] at h; rw [h]⟩
  case str.str.str => exact ⟨rfl, fun h => by simp [leavesCV] at h; rw [h]⟩
  case nil.nil.nil => exact ⟨rfl, fun _ => rfl⟩
  case fz.fz.fz =>
    have e := (eqK_ok h).symm.trans (eqK_ok h')
    subst e
    exact ⟨rfl, fun h => by simp [leavesCV] at h; rw [h]⟩
  case arr.arr.arr =>
    have e := (Nat.eq_of_beq_eq_true h).symm.trans (Nat.eq_of_beq_eq_true h')
    subst e
    exact ⟨rfl, fun _ => rfl⟩
  case sub.sub.sub =>
    have e := (Nat.eq_of_beq_eq_true h).symm.trans (Nat.eq_of_beq_eq_true h')
    subst e
    exact ⟨rfl, fun h => by simp [leavesCV] at h; rw [h.1, h.2]⟩
  case box.box.box =>
    have e := (Nat.eq_of_beq_eq_true h.1).symm.trans (Nat.eq_of_beq_eq_true h'.1)
    have e2 := (Nat.eq_of_beq_eq_true h.2).symm.trans (Nat.eq_of_beq_eq_true h'.2)
    subst e; subst e2
    exact ⟨rfl, fun _ => rfl⟩
  case el.el.el =>
    have e := (Nat.eq_of_beq_eq_true h.1).symm.trans (Nat.eq_of_beq_eq_true h'.1)
    have e2 := (Nat.eq_of_beq_eq_true h.2).symm.trans (Nat.eq_of_beq_eq_true h'.2)
    subst e; subst e2
    exact ⟨rfl, fun h => by simp [leavesCV] at h; rw [h]⟩
  case fel.fel.fel =>
    have e := (eqK_ok h.1).symm.trans (eqK_ok h'.1)
    have e2 := (Nat.eq_of_beq_eq_true h.2).symm.trans (Nat.eq_of_beq_eq_true h'.2)
    subst e; subst e2
    exact ⟨rfl, fun h => by simp [leavesCV] at h; rw [h]⟩
  case inn.inn.inn =>
    have e := (Nat.eq_of_beq_eq_true h.1).symm.trans (Nat.eq_of_beq_eq_true h'.1)
    have e2 := (Nat.eq_of_beq_eq_true h.2).symm.trans (Nat.eq_of_beq_eq_true h'.2)
    subst e; subst e2
    exact ⟨rfl, fun h => by simp [leavesCV] at h; rw [h]⟩
  case iel.iel.iel =>
    have e := (Nat.eq_of_beq_eq_true h.1).symm.trans (Nat.eq_of_beq_eq_true h'.1)
    have e2 := (Nat.eq_of_beq_eq_true h.2.1).symm.trans (Nat.eq_of_beq_eq_true h'.2.1)
    have e3 := (Nat.eq_of_beq_eq_true h.2.2).symm.trans (Nat.eq_of_beq_eq_true h'.2.2)
    subst e; subst e2; subst e3
    exact ⟨rfl, fun h => by simp [leavesCV] at h; rw [h.1, h.2]⟩
  case clo.clo.clo =>
    have e := (Nat.eq_of_beq_eq_true h.1).symm.trans (Nat.eq_of_beq_eq_true h'.1)
    subst e
    rw [shCaps_eq _ _ _ h.2 h'.2]
    exact ⟨rfl, fun _ => rfl⟩
  case fnv.fnv.fnv =>
    have e := (eqK_ok h.1).symm.trans (eqK_ok h'.1)
    have e2 := (eqK_ok h.2).symm.trans (eqK_ok h'.2)
    subst e; subst e2
    exact ⟨rfl, fun h => by simp [leavesCV] at h; rw [h]⟩
theorem app_split {α : Type} {a b c d : List α} (h : a ++ c = b ++ d) (hl : a.length = b.length) : a = b ∧ c = d := List.append_inj h hl
theorem shCVs_eq : ∀ (s a b : List CV), shCVs s a = true → shCVs s b = true → (leavesCVs a).length = (leavesCVs b).length ∧ (leavesCVs a = leavesCVs b → a = b)
  | [], [], [], _, _ => ⟨rfl, fun _ => rfl⟩
  | [], _ :: _, _, h, _ => by cases h
  | [], [], _ :: _, _, h => by cases h
  | _ :: _, [], _, h, _ => by cases h
  | _ :: _, _ :: _, [], _, h => by cases h
  | x :: s, y :: a, z :: b, h, h' => by
    simp only [shCVs, Bool.and_eq_true] at h h'
    obtain ⟨h1, h2⟩ := shCV_eq h.1 h'.1
    obtain ⟨h3, h4⟩ := shCVs_eq s a b h.2 h'.2
    refine ⟨by simp [leavesCVs, h1, h3], fun e => ?_⟩
    obtain ⟨e1, e2⟩ := app_split e h1
    rw [h2 e1, h4 e2]
theorem shDV_eq {s a b : DV} (h : shDV s a = true) (h' : shDV s b = true) : (leavesDV a).length = (leavesDV b).length ∧ (leavesDV a = leavesDV b → a = b) := by
  cases s <;> cases a <;> first | (cases h; done) | (cases b <;> first | (cases h'; done) | skip)
  simp only [shDV, Bool.and_eq_true] at h h'
  have e := (eqB_ok h.1).symm.trans (eqB_ok h'.1)
  subst e
  obtain ⟨h1, h2⟩ := shCVs_eq _ _ _ h.2 h'.2
  exact ⟨h1, fun e => by rw [h2 e]⟩
theorem shOB_eq {s a b : OB} (h : shOB s a = true) (h' : shOB s b = true) : (leavesOB a).length = (leavesOB b).length ∧ (leavesOB a = leavesOB b → a = b) := by
  cases s <;> cases a <;> first | (cases h; done) | (cases b <;> first | (cases h'; done) | skip)
  all_goals simp only [shOB, Bool.and_eq_true] at h h'
  case box.box.box =>
    obtain ⟨h1, h2⟩ := shCVs_eq _ _ _ h h'
    exact ⟨h1, fun e => by rw [h2 e]⟩
  case arr.arr.arr =>
    have e := (eqK_ok h.1).symm.trans (eqK_ok h'.1)
    have e2 := (eqB_ok h.2.1).symm.trans (eqB_ok h'.2.1)
    have e3 := (eqB_ok h.2.2).symm.trans (eqB_ok h'.2.2)
    subst e; subst e2; subst e3
    exact ⟨rfl, fun h => by simp [leavesOB] at h; rw [h]⟩
theorem shS_eq : ∀ (s a b : List (Nat × DV)), shS s a = true → shS s b = true → (leavesS a).length = (leavesS b).length ∧ (leavesS a = leavesS b → a = b)
  | [], [], [], _, _ => ⟨rfl, fun _ => rfl⟩
  | [], _ :: _, _, h, _ => by cases h
  | [], [], _ :: _, _, h => by cases h
  | _ :: _, [], _, h, _ => by cases h
  | _ :: _, _ :: _, [], _, h => by cases h
  | x :: s, y :: a, z :: b, h, h' => by
    simp only [shS, Bool.and_eq_true] at h h'
    have e0 := (Nat.eq_of_beq_eq_true h.1).symm.trans (Nat.eq_of_beq_eq_true h'.1)
    obtain ⟨h1, h2⟩ := shDV_eq h.2.1 h'.2.1
    obtain ⟨h3, h4⟩ := shS_eq s a b h.2.2 h'.2.2
    refine ⟨by simp [leavesS, h1, h3], fun e => ?_⟩
    obtain ⟨e1, e2⟩ := app_split e h1
    rw [h4 e2, Prod.ext e0 (h2 e1)]
theorem shO_eq : ∀ (s a b : List (Nat × OB)), shO s a = true → shO s b = true → (leavesO a).length = (leavesO b).length ∧ (leavesO a = leavesO b → a = b)
  | [], [], [], _, _ => ⟨rfl, fun _ => rfl⟩
  | [], _ :: _, _, h, _ => by cases h
  | [], [], _ :: _, _, h => by cases h
  | _ :: _, [], _, h, _ => by cases h
  | _ :: _, _ :: _, [], _, h => by cases h
  | x :: s, y :: a, z :: b, h, h' => by
    simp only [shO, Bool.and_eq_true] at h h'
    have e0 := (Nat.eq_of_beq_eq_true h.1).symm.trans (Nat.eq_of_beq_eq_true h'.1)
    obtain ⟨h1, h2⟩ := shOB_eq h.2.1 h'.2.1
    obtain ⟨h3, h4⟩ := shO_eq s a b h.2.2 h'.2.2
    refine ⟨by simp [leavesO, h1, h3], fun e => ?_⟩
    obtain ⟨e1, e2⟩ := app_split e h1
    rw [h4 e2, Prod.ext e0 (h2 e1)]
theorem shape_eq {s a b : St} (h : shape s a = true) (h' : shape s b = true) (e : leaves a = leaves b) : a = b := by
  obtain ⟨a1, a2, a3⟩ := a
  obtain ⟨b1, b2, b3⟩ := b
  simp only [shape, Bool.and_eq_true] at h h'
  obtain ⟨h1, h2⟩ := shS_eq _ _ _ h.1 h'.1
  obtain ⟨h3, h4⟩ := shO_eq _ _ _ h.2.1 h'.2.1
  obtain ⟨h5, h6⟩ := shCVs_eq _ _ _ h.2.2 h'.2.2
  simp only [leaves] at e
  obtain ⟨e1, e2⟩ := app_split e h1
  obtain ⟨e3, e4⟩ := app_split e2 h3
  rw [h2 e1, h4 e3, h6 e4]
theorem LK.get_ok {k : LK} {x : Leaf} {v : k.T} (h : k.get x = some v) : x = ⟨k, v⟩ := by
  obtain ⟨k', v'⟩ := x
  cases k <;> cases k' <;> first | (cases h; done) | skip
  case i.i => cases h; rfl
  case b.b => cases h; rfl
  case s.s => cases h; rfl
  case l.l =>
    obtain ⟨e, h⟩ := castL_some h
    subst e; subst h; rfl
  case x.x =>
    simp only [LK.get] at h
    split at h
    · rename_i e _
      subst e
      cases h; rfl
    · cases h
  case f.f =>
    simp only [LK.get] at h
    split at h
    · rename_i e e' _ _
      subst e; subst e'
      cases h; rfl
    · cases h
theorem LT.get_ok : ∀ (ks : List LK) (xs : List Leaf) (v : LT ks), LT.get ks xs = some v → xs = LT.all ks v
  | [], [], v, _ => rfl
  | [], _ :: _, v, h => by cases h
  | _ :: _, [], v, h => by cases h
  | k :: ks, x :: xs, v, h => by
    simp only [LT.get] at h
    cases h1 : k.get x with
    | none => rw [h1] at h; cases h
    | some u =>
      rw [h1] at h
      simp only [Option.bind_some] at h
      cases h2 : LT.get ks xs with
      | none => rw [h2] at h; cases h
      | some us =>
        rw [h2] at h
        cases h
        show x :: xs = ⟨k, u⟩ :: LT.all ks us
        rw [LK.get_ok h1, LT.get_ok ks xs us h2]

/-! ### Code -/
def exOf : Ex → Exit
  | .normal => .normal
  | .exit id => .exit id
  | .ret => .ret
theorem least {p : Nat → Prop} (h : ∃ n, p n) : ∃ n, p n ∧ ∀ m, p m → n ≤ m := by
  obtain ⟨n, hn⟩ := h
  induction n using Nat.strongRecOn with
  | _ n ih =>
    by_cases hm : ∃ m, m < n ∧ p m
    · obtain ⟨m, hlt, hp⟩ := hm
      exact ih m hlt hp
    · exact ⟨n, hn, fun m hp => Nat.le_of_not_lt fun hlt => hm ⟨m, hlt, hp⟩⟩
noncomputable def leastN (p : Nat → Prop) : Nat := open Classical in if h : ∃ n, p n then Classical.choose (least h) else 0
theorem leastN_ok {p : Nat → Prop} {n : Nat} (h : p n) : p (leastN p) ∧ leastN p ≤ n := by
  unfold leastN
  rw [dif_pos ⟨n, h⟩]
  have := Classical.choose_spec (least ⟨n, h⟩)
  exact ⟨this.1, this.2 n h⟩
theorem Lp.run_some {ρ : Type} {lp : Lp ρ} {n : Nat} {st : St} {C : Ex → St → Option ρ} {y : ρ} (h : lp.run n st C = some y) (hl : ∀ x, leaves (lp.tm x) = LT.all lp.ks x ∧ shape (lp.tm (LT.dflt lp.ks)) (lp.tm x) = true) : ∃ x, st = lp.tm x ∧ lp.f C n x = some y := by
  unfold Lp.run at h
  cases hs : shape (lp.tm (LT.dflt lp.ks)) st with
  | false => rw [hs] at h; cases h
  | true =>
    rw [hs] at h
    simp only [cond_true] at h
    cases hx : LT.get lp.ks (leaves st) with
    | none => rw [hx] at h; cases h
    | some x =>
      rw [hx] at h
      exact ⟨x, shape_eq hs (hl x).2 ((LT.get_ok _ _ _ hx).trans (hl x).1.symm), h⟩
theorem LoopsOk.app {ρ : Type} {E : Env} {k : Nat} {hd : Hints} {ls : List (Nat × Lp ρ)} : ∀ (l r : List (Nat × Code)), LoopsOk E k hd ls (l ++ r) → LoopsOk E k hd ls l ∧ LoopsOk E k hd ls r
  | [], r, h => ⟨trivial, h⟩
  | x :: l, r, h => by
    obtain ⟨h1, h2⟩ := LoopsOk.app l r h.2
    exact ⟨⟨h.1, h1⟩, h2⟩
theorem den_sound {X : Cx} {E : Env} {k : Nat} (hE : EnvOk X.P E k) {ρ : Type} {hd : Hints} {ls : List (Nat × Lp ρ)} {y : ρ} : ∀ (c : Code), dstsOk X.n c = true → LoopsOk E k hd ls (loopsOf c) → ∀ (st : St) (C : Ex → St → Option ρ) (a : Act) (w : World) (Q : Exit → Act → World → Prop), den E k hd (runL k hd ls) c st C = some y → Rel X st a w →
    (∀ e st' a' w', Rel X st' a' w' → C e st' = some y → Q (exOf e) a' w') → c.wp X.P Q a w := by
  intro c
  induction c with
  | skip =>
    intro _ _ st C a w Q h hr hQ
    exact wp_skip (hQ .normal st a w hr h)
  | region rid ops draw =>
    intro hn _ st C a w Q h hr hQ
    have hds : ∀ o ∈ ops.toList, ∀ t, o.dst = some t → t < X.n := fun o ho t ht => by
      have := List.all_eq_true.1 hn o ho
      rw [ht] at this
      exact blt_lt this
    cases draw with
    | false =>
      have h : runOps E k ops.toList rid 0 ops.toList ⟨onlyN hd.vars st.slots, st.objs, st.outs⟩ (C .normal) = some y := h
      exact wp_region_list (runOps_sound hE _ _ _ _ _ _ h (hr.only _) hds fun st' a' w' hr' hc => hQ .normal st' a' w' hr' hc)
    | true =>
      have h : runOpsL E k ops.toList rid 0 ops.toList ⟨onlyN hd.vars st.slots, st.objs, st.outs⟩ [] (fun st lg => match findO hd.anc rid with
        | some b => bif backOk 0 ops.toList && (ancOk b b ops.toList && (apartLog b lg && apartTmps b ops.toList 0 [] ops.toList)) then C .normal st else hard
        | none => hard) = some y := h
      refine runOpsL_sound hE h (hr.only _) hds (fun st' lg hc => ?_) fun st' lg a' w' hr' hc => ?_
      · split at hc
        · rename_i b _
          cases hb : (backOk 0 ops.toList && (ancOk b b ops.toList && (apartLog b lg && apartTmps b ops.toList 0 [] ops.toList))) with
          | false => rw [hb] at hc; cases hc
          | true =>
            simp only [Bool.and_eq_true] at hb
            exact ⟨b, hb.1, hb.2.1, hb.2.2.1, hb.2.2.2⟩
        · cases hc
      · split at hc
        · rename_i b _
          cases hb : (backOk 0 ops.toList && (ancOk b b ops.toList && (apartLog b lg && apartTmps b ops.toList 0 [] ops.toList))) with
          | false => rw [hb] at hc; cases hc
          | true =>
            rw [hb] at hc
            exact hQ .normal st' a' w' hr' hc
        · cases hc
  | seq x z ihx ihz =>
    intro hn hl st C a w Q h hr hQ
    simp only [dstsOk, Bool.and_eq_true] at hn
    obtain ⟨l1, l2⟩ := LoopsOk.app _ _ hl
    refine wp_seq (ihx hn.1 l1 st _ a w _ h hr fun e st' a' w' hr' hc => ?_)
    cases e with
    | normal => exact ihz hn.2 l2 st' C a' w' Q hc hr' hQ
    | exit id => exact hQ _ st' a' w' hr' hc
    | ret => exact hQ _ st' a' w' hr' hc
  | cond p x z ihx ihz =>
    intro hn hl st C a w Q h hr hQ
    simp only [dstsOk, Bool.and_eq_true] at hn
    obtain ⟨l1, l2⟩ := LoopsOk.app _ _ hl
    simp only [den] at h
    split at h
    · rename_i b hb
      obtain ⟨β, D, S, Z, hra⟩ := hr
      have hv := hra.eval st rfl p
      rw [hb] at hv
      cases b with
      | true => exact wp_cond_true hv (ihx hn.1 l1 st C a w Q h ⟨β, D, S, Z, hra⟩ hQ)
      | false => exact wp_cond_false hv (ihz hn.2 l2 st C a w Q h ⟨β, D, S, Z, hra⟩ hQ)
    · cases h
  | block id x ih =>
    intro hn hl st C a w Q h hr hQ
    refine wp_block (ih hn hl st _ a w _ h hr fun e st' a' w' hr' hc => ?_)
    cases e with
    | normal => exact hQ _ st' a' w' hr' hc
    | ret => exact hQ _ st' a' w' hr' hc
    | exit j =>
      simp only [exOf, Exit.inBlock]
      simp only at hc
      cases hb : Nat.beq j id with
      | true =>
        rw [hb] at hc
        rw [if_pos (Nat.eq_of_beq_eq_true hb)]
        exact hQ .normal st' a' w' hr' hc
      | false =>
        rw [hb] at hc
        rw [if_neg fun e => by rw [e, beq_self] at hb; cases hb]
        exact hQ (.exit j) st' a' w' hr' hc
  | loop x ih =>
    intro hn hl st C a w Q h hr hQ
    have hl0 := hl.1
    have h : runL k hd ls (headId x) st C = some y := h
    unfold runL at h
    unfold LoopOk at hl0
    split at h
    · rename_i hh lp h1 h2
      rw [h1, h2] at hl0
      obtain ⟨hz, hs, hlv⟩ := hl0
      obtain ⟨x0, e0, h0⟩ := Lp.run_some h hlv
      have hI0 := hr.canon hh
      rw [e0] at hI0
      let p : Act → World → Nat → Prop := fun a w n => ∃ x, Rel X (lp.tm x) a w ∧ lp.f C n x = some y
      refine wp_loop (fun a w => ∃ n, p a w n) (fun a w => leastN (p a w)) ⟨k, x0, hI0, h0⟩ fun a w ⟨n0, hn0⟩ => ?_
      obtain ⟨⟨x1, hr1, hf1⟩, _⟩ := leastN_ok hn0
      generalize hm : leastN (p a w) = m at hf1
      cases m with
      | zero => rw [hz] at hf1; cases hf1
      | succ m =>
        rw [hs] at hf1
        have hf1 : den E k hd (runL k hd ls) x (lp.tm x1) (fun e st => match e with
          | .normal => lp.run m (canon hh st) C
          | e => C e st) = some y := hf1
        refine ih hn hl.2 _ _ a w _ hf1 hr1 fun e st' a' w' hr' hc => ?_
        cases e with
        | normal =>
          obtain ⟨x2, e2, h2⟩ := Lp.run_some hc hlv
          have hr2 := hr'.canon hh
          rw [e2] at hr2
          have hp : p a' w' m := ⟨x2, hr2, h2⟩
          refine ⟨⟨m, hp⟩, ?_⟩
          have := (leastN_ok hp).2
          omega
        | exit id => exact hQ _ st' a' w' hr' hc
        | ret => exact hQ _ st' a' w' hr' hc
    · cases h
  | exit id =>
    intro _ _ st C a w Q h hr hQ
    simp only [den] at h
    split at h
    · exact wp_exit (hQ (.exit id) _ a w (hr.canon _) h)
    · exact wp_exit (hQ (.exit id) _ a w hr h)
  | ret =>
    intro _ _ st C a w Q h hr hQ
    exact wp_ret (hQ .ret _ a w (hr.canon _) h)
  | _ => intro _ _ st C a w Q h; cases h
end Go.Dn
/- A function's begin and its end: what it does is what is said. -/
set_option linter.unusedVariables false
namespace Go.Dn

theorem give_top : ∀ (κ : K) (q : Q) (x : κ.T) (i : Nat), (κ.give q x i).2.2 ≤ i + 2 * κ.n
  | .int _, q, _, _ => by cases q <;> exact Nat.le_add_right _ _
  | .bool, q, _, _ => by cases q <;> exact Nat.le_add_right _ _
  | .str, q, _, _ => by cases q <;> exact Nat.le_add_right _ _
  | .unit, q, _, _ => by cases q <;> exact Nat.le_add_right _ _
  | .pair a b, q, x, i => by
    have h1 := give_top a q.l x.1 i
    have h2 := give_top b q.r x.2 (a.give q.l x.1 i).2.2
    simp only [K.give, K.n]; omega
  | .sl _, q, _, _ => by
    cases q
    · exact Nat.le_add_right _ _
    · exact Nat.le_refl _
    · exact Nat.le_refl _
    · exact Nat.le_add_right _ _
theorem ArgsR.len {P : Program} {Z W : CS} {w : World} : ∀ (ps : List PM) (x : Sig.In ps) (vs : List Value) (T : CS), ArgsR P Z W w ps x vs T → vs.length = ps.length
  | [], x, vs, T, h => by simp only [ArgsR] at h; rw [h]; rfl
  | .b κ :: ps, x, vs, T, h => by obtain ⟨v, us, r, rfl, _, _, h⟩ := h; simp [ArgsR.len ps x.2 r T h]
  | .r κ :: ps, x, vs, T, h => by obtain ⟨b, off, us, r, rfl, _, _, h⟩ := h; simp [ArgsR.len ps x.2 r T h]
  | .p κ i _ :: ps, x, vs, T, h => by obtain ⟨b, off, r, T1, T2, rfl, _, h, _⟩ := h; simp [ArgsR.len ps x.2 r T2 h]
  | .m κ :: ps, x, vs, T, h => by obtain ⟨v, us, r, T1, T2, rfl, _, _, h, _⟩ := h; simp [ArgsR.len ps x.2 r T2 h]
  | .c e d :: ps, x, vs, T, h => by obtain ⟨v, r, T1, T2, rfl, _, h, _⟩ := h; simp [ArgsR.len ps x.2 r T2 h]
  | .z _ :: ps, x, vs, T, h => by obtain ⟨A, r, rfl, h⟩ := h; simp [ArgsR.len ps x r T h]
  | .f a b :: ps, x, vs, T, h => by obtain ⟨v, r, rfl, _, h⟩ := h; simp [ArgsR.len ps x.2 r T h]

def X0 (P : Program) (n : Nat) (W : CS) (w : World) (Z : CS) : Cx := ⟨P, n, W, w, Z, []⟩
theorem vr_ov {P : Program} {n : Nat} {W : CS} {w0 : World} {Z0 : CS} (ov ov' : List Value) {β : Nat → Pl} {D : Nat → Prop} {Z : CS} {w : World} {c : CV} {v : Value} (h : VR ⟨P, n, W, w0, Z0, ov⟩ β D Z w c v) : VR ⟨P, n, W, w0, Z0, ov'⟩ β D Z w c v := by
  cases c <;> exact h
theorem or_ov {P : Program} {n : Nat} {W : CS} {w0 : World} {Z0 : CS} (ov ov' : List Value) {β : Nat → Pl} {D : Nat → Prop} {Z : CS} {w : World} {o : Nat} {S : CS} {b : OB} (h : OR ⟨P, n, W, w0, Z0, ov⟩ β D Z w o S b) : OR ⟨P, n, W, w0, Z0, ov'⟩ β D Z w o S b := by
  cases b with
  | box cs =>
    intro i c hi
    obtain ⟨h1, v, h2, h3⟩ := h i c hi
    exact ⟨h1, v, h2, vr_ov ov ov' h3⟩
  | arr e d fr l => cases fr <;> exact h
  | hole => exact h
  | non => trivial
  | dead => trivial

/-- What of the arguments is looked at again at the end. -/
def OVR : List PM → List Value → List Value → Prop
  | [], _, ov => ov = []
  | .p _ _ _ :: ps, v :: vs, ov => ∃ r, ov = v :: r ∧ OVR ps vs r
  | .m κ :: ps, v :: vs, ov => ∃ us r, ov = us ++ r ∧ pk κ us v ∧ us.length = κ.n ∧ OVR ps vs r
  | .b _ :: ps, _ :: vs, ov => OVR ps vs ov
  | .r _ :: ps, _ :: vs, ov => OVR ps vs ov
  | .c _ _ :: ps, _ :: vs, ov => OVR ps vs ov
  | .z _ :: ps, _ :: vs, ov => OVR ps vs ov
  | .f _ _ :: ps, _ :: vs, ov => OVR ps vs ov
  | _, [], _ => False
section
variable {P : Program} {n : Nat} {W : CS} {w : World} {Z : CS}
/-- The objects and temporaries at a function's begin. -/
theorem entryAll_sound {outs0 : List CV} {a : Act} {sl0 : Nat → DV} : ∀ (ps : List PM) (i : Nat) (x : Sig.In ps) (vs : List Value) (T : CS) (β : Nat → Pl) (D : Nat → Prop) (S : Nat → CS) (ob : Nat → OB), psOk ps = true → ArgsR P Z W w ps x vs T → T.le W → RelAt (X0 P n W w Z) β D S Z sl0 ob outs0 a w → Free (X0 P n W w Z) S Z w T → (∀ z, i * 64 ≤ z → ob z = .non) →
    ∃ β' D' S' ov, RelAt (X0 P n W w Z) β' D' S' Z sl0 (updAll ob (entryAll i ps x).2.1) outs0 a w ∧ All2 (fun s v => DR (VR (X0 P n W w Z) β' D' Z w) s.2 v) (entryAll i ps x).1 vs ∧ (entryAll i ps x).1.map (·.1) = List.range' i ps.length ∧ All2 (VR (X0 P n W w Z) β' D' Z w) (entryAll i ps x).2.2 ov ∧ OVR ps vs ov ∧
      Grew (X0 P n W w Z) β D S Z w T β' D' S' := by
  intro ps
  induction ps with
  | nil =>
    intro i x vs T β D S ob hps hA hT hr hf hn
    simp only [ArgsR] at hA
    subst hA
    exact ⟨β, D, S, [], hr, trivial, rfl, trivial, rfl, fun o d => ⟨d, rfl⟩, fun o b j s => .inl s⟩
  | cons p ps ih =>
    intro i x vs T β D S ob hps hA hT hr hf hn
    have hps2 : psOk ps = true := by unfold psOk at hps ⊢; simp only [List.all_cons, Bool.and_eq_true] at hps; exact hps.2
    -- a parameter without memory
    have plain : ∀ (v : Value) (r : List Value) (d : DV) (x2 : Sig.In ps) (T2 : CS), T2.le T → ArgsR P Z W w ps x2 r T2 → (∀ (β' : Nat → Pl) (D' : Nat → Prop), (∀ o, D o → D' o ∧ β' o = β o) → DR (VR (X0 P n W w Z) β' D' Z w) d v) → (∀ ov, OVR ps r ov → OVR (p :: ps) (v :: r) ov) →
        ∃ β' D' S' ov, RelAt (X0 P n W w Z) β' D' S' Z sl0 (updAll ob (entryAll (i + 1) ps x2).2.1) outs0 a w ∧ All2 (fun s v => DR (VR (X0 P n W w Z) β' D' Z w) s.2 v) ((i, d) :: (entryAll (i + 1) ps x2).1) (v :: r) ∧ ((i, d) :: (entryAll (i + 1) ps x2).1).map (·.1) = List.range' i (ps.length + 1) ∧ All2 (VR (X0 P n W w Z) β' D' Z w) (entryAll (i + 1) ps x2).2.2 ov ∧ OVR (p :: ps) (v :: r) ov ∧
          Grew (X0 P n W w Z) β D S Z w T β' D' S' := fun v r d x2 T2 hT2 h2 hd hov => by
      obtain ⟨β', D', S', ov, k1, k2, k3, k4, k6, k5⟩ := ih (i + 1) x2 r T2 β D S ob hps2 h2 (hT2.trans hT) hr (hf.le hT2) (fun z hz => hn z (by omega))
      refine ⟨β', D', S', ov, k1, ⟨hd β' D' k5.d, k2⟩, ?_, k4, hov ov k6, k5.d, fun o b j s => (k5.s o b j s).imp (fun h => h) (hT2 b j)⟩
      rw [List.map_cons, k3, List.range'_succ]
    -- a parameter with memory of its own
    have owned : ∀ (v : Value) (r : List Value) (d : DV) (l : List (Nat × OB)) (o1 : List CV) (u1 : List Value) (x2 : Sig.In ps) (T1 T2 : CS), Sep T T1 T2 → ArgsR P Z W w ps x2 r T2 → (∀ z ∈ l, i * 64 ≤ z.1 ∧ z.1 < (i + 1) * 64) →
        (∃ β1 D1 S1, RelAt (X0 P n W w Z) β1 D1 S1 Z sl0 (updAll ob l) outs0 a w ∧ DR (VR (X0 P n W w Z) β1 D1 Z w) d v ∧ All2 (VR (X0 P n W w Z) β1 D1 Z w) o1 u1 ∧ Grew (X0 P n W w Z) β D S Z w T1 β1 D1 S1) → (∀ ov, OVR ps r ov → OVR (p :: ps) (v :: r) (u1 ++ ov)) →
        ∃ β' D' S' ov, RelAt (X0 P n W w Z) β' D' S' Z sl0 (updAll ob (l ++ (entryAll (i + 1) ps x2).2.1)) outs0 a w ∧ All2 (fun s v => DR (VR (X0 P n W w Z) β' D' Z w) s.2 v) ((i, d) :: (entryAll (i + 1) ps x2).1) (v :: r) ∧ ((i, d) :: (entryAll (i + 1) ps x2).1).map (·.1) = List.range' i (ps.length + 1) ∧ All2 (VR (X0 P n W w Z) β' D' Z w) (o1 ++ (entryAll (i + 1) ps x2).2.2) ov ∧ OVR (p :: ps) (v :: r) ov ∧
          Grew (X0 P n W w Z) β D S Z w T β' D' S' := fun v r d l o1 u1 x2 T1 T2 hs h2 hl ⟨β1, D1, S1, q1, q2, q3, q4⟩ hov => by
      obtain ⟨β', D', S', ov, k1, k2, k3, k4, k6, k5⟩ := ih (i + 1) x2 r T2 β1 D1 S1 _ hps2 h2 (hs.r.trans hT) q1 ((hf.le hs.r).grew q4 hs.d.symm) (fun z hz => by
        rw [updAll_out _ _ _ fun x hx e => ?_]
        · exact hn z (by omega)
        · have := (hl x hx).2; omega)
      refine ⟨β', D', S', u1 ++ ov, by rw [updAll_app]; exact k1, ⟨DR.imp (fun c v h => h.grew k5) _ _ q2, k2⟩, ?_, All2.app _ _ _ _ (All2.imp (fun c v h => h.grew k5) _ _ q3) k4, hov ov k6, q4.trans k5 hs.l hs.r⟩
      rw [List.map_cons, k3, List.range'_succ]
    cases p with
    | b κ =>
      obtain ⟨v, us, r, rfl, hp, hh, h2⟩ := hA
      exact plain v r _ x.2 T (CS.le.refl _) h2 (fun β' D' _ => dr_of (cvs_rd κ .rd (.inl rfl) _ _ _ hh) (fun _ _ h => vr_noskip h) (cvs_len κ x.1) hp) fun ov h => h
    | r κ =>
      obtain ⟨b, off, us, r, rfl, hh, hc, h2⟩ := hA
      refine plain _ r _ x.2 T (CS.le.refl _) h2 (fun β' D' _ => ⟨b, off, us, by simp, hh, fun j u hj => ⟨(hc j u hj).1, .inr fun hF => ?_⟩⟩) fun ov h => h
      rcases hF with hF | hF
      · exact (hc j u hj).2 hF
      · obtain ⟨_, _, _, hb, _⟩ := heap_of_cell? (hc j u hj).1
        have := lt_of_heap hb
        exact absurd hF (by show ¬ w.heap.size ≤ b; omega)
    | p κ q q' =>
      obtain ⟨b, off, r, T1, T2, rfl, ⟨us, T', hh, hT', hc⟩, h2, hs⟩ := hA
      have gi := give_ids κ q x.1 (i * 64 + 2)
      have gt := give_top κ q x.1 (i * 64 + 2)
      have hk : 2 * κ.n + 2 ≤ 64 := by unfold psOk at hps; simp only [List.all_cons, Bool.and_eq_true] at hps; exact Nat.le_of_ble_eq_true hps.1
      have hus := H.len _ _ _ _ _ hh
      have hT1 : T1.le T := hs.l
      obtain ⟨β1, D1, S1, g1, g2, g3⟩ := give_sound κ q x.1 (i * 64 + 2) us T' β D S ob hh hr (hf.le (hT'.trans hT1)) (fun z hz => hn z.1 (by have := (gi.2 z hz).1; omega))
      let C : CS := fun b' j => b' = b ∧ off ≤ j ∧ j < off + κ.n
      have hC : ∀ b' j, C b' j → T1 b' j ∧ ¬ T' b' j ∧ b' < w.heap.size := fun b' j ⟨e, h1, h2⟩ => by
        subst e
        have hi : j - off < us.length := by omega
        have := hc (j - off) us[j - off] (by simp [hi])
        rw [show off + (j - off) = j by omega] at this
        exact ⟨this.2.1, this.2.2, this.1.lt⟩
      have hn0 : updAll ob (κ.give q x.1 (i * 64 + 2)).2.1 (i * 64) = .non := by
        rw [updAll_out _ _ _ fun z hz e => ?_]
        · exact hn _ (Nat.le_refl _)
        · have := (gi.2 z hz).1; omega
      have hnD : ∀ o, D1 o → o ≠ i * 64 := fun o d e => g1.dom o d (e ▸ hn0)
      have hfC := (hf.le ((fun b j h => hT1 b j (hC b j h).1) : C.le T)).grew g3 (fun b j c t => (hC b j c).2.1 t)
      have hnew := g1.new (i * 64) hn0 ⟨b, off, none, 0, 0, 0⟩ (.box (κ.give q x.1 (i * 64 + 2)).1) (by simp) C hfC.f hfC.b hfC.z (fun o _ => hfC.s o) (by
        intro j c hj
        obtain ⟨u, h1, h2⟩ := All2.get _ _ g2 j c hj
        have hlt : j < κ.n := by rw [← give_len κ q x.1 (i * 64 + 2)]; exact (List.getElem?_eq_some_iff.1 hj).1
        rw [upd_same]
        exact ⟨⟨rfl, by show off ≤ off + j; omega, by show off + j < off + κ.n; omega⟩, u, (hc j u h1).1, h2.mono (fun o d => ⟨.inl d, upd_ne _ _ (hnD o d)⟩) (CS.le.refl _) (Agr.refl CS.no w) (fun _ _ t => t.elim) (fun _ _ t => t.elim)⟩)
      have hvr : VR (X0 P n W w Z) (upd β1 (i * 64) ⟨b, off, none, 0, 0, 0⟩) (fun o => D1 o ∨ o = i * 64) Z w (.box (i * 64) 0) (.pointer (some ⟨b, off, none⟩)) := ⟨.inr rfl, by rw [upd_same]; rfl⟩
      have hdr : DR (VR (X0 P n W w Z) (upd β1 (i * 64) ⟨b, off, none, 0, 0, 0⟩) (fun o => D1 o ∨ o = i * 64) Z w) (.v false [.box (i * 64) 0]) (.pointer (some ⟨b, off, none⟩)) := hvr
      refine owned _ r (.v false [.box (i * 64) 0]) ((i * 64, .box (κ.give q x.1 (i * 64 + 2)).1) :: (κ.give q x.1 (i * 64 + 2)).2.1) [.box (i * 64) 0] [_] x.2 T1 T2 hs h2 (fun z hz => ?_) ⟨_, _, upd S1 (i * 64) C, ?_, hdr, ⟨hvr, trivial⟩, fun o d => ?_, fun o b' j s => ?_⟩ fun ov h => ⟨ov, rfl, h⟩
      · rcases List.mem_cons.1 hz with rfl | hz
        · exact ⟨Nat.le_refl _, by show i * 64 < (i + 1) * 64; omega⟩
        · have := gi.2 z hz; omega
      · have e : updAll ob ((i * 64, .box (κ.give q x.1 (i * 64 + 2)).1) :: (κ.give q x.1 (i * 64 + 2)).2.1) = upd (updAll ob (κ.give q x.1 (i * 64 + 2)).2.1) (i * 64) (.box (κ.give q x.1 (i * 64 + 2)).1) :=
          upd_updAll _ _ _ _ fun z hz e => by have := (gi.2 z hz).1; omega
        rw [e]; exact hnew
      · have := g3.d o d
        exact ⟨.inl this.1, (upd_ne _ _ (hnD o this.1)).trans this.2⟩
      · by_cases e : o = i * 64
        · subst e; rw [upd_same] at s; exact .inr (hC b' j s).1
        · rw [upd_ne _ _ e] at s
          exact (g3.s o b' j s).imp (fun h => h) (hT' b' j)
    | m κ =>
      obtain ⟨v, us, r, T1, T2, rfl, hp, hh, h2, hs⟩ := hA
      have gi := give_ids κ .dp x.1 (i * 64)
      have gt := give_top κ .dp x.1 (i * 64)
      have hk : 2 * κ.n ≤ 64 := by unfold psOk at hps; simp only [List.all_cons, Bool.and_eq_true] at hps; exact Nat.le_of_ble_eq_true hps.1
      obtain ⟨β1, D1, S1, g1, g2, g3⟩ := give_sound κ .dp x.1 (i * 64) us T1 β D S ob hh hr (hf.le hs.l) (fun z hz => hn z.1 (gi.2 z hz).1)
      exact owned v r _ _ _ us x.2 T1 T2 hs h2 (fun z hz => by have := gi.2 z hz; omega) ⟨β1, D1, S1, g1, dr_of g2 (fun _ _ h => vr_noskip h) (give_len κ .dp x.1 _) hp, g2, g3⟩ fun ov h => ⟨us, ov, rfl, hp, H.len _ _ _ _ _ hh, h⟩
    | c e d =>
      obtain ⟨v, r, T1, T2, rfl, hh, h2, hs⟩ := hA
      have hh' : ∃ A c, [v] = [Value.slice A x.1.length c] ∧ OwnSl w e.n (HL (H Z w (bif d then .dp else .rd) e) x.1) A x.1.length c T1 := by
        cases d <;> exact hh
      obtain ⟨A, c, hv, hO⟩ := hh'
      cases hv
      have hn0 := hn (i * 64) (Nat.le_refl _)
      have hnD : ∀ o, D o → o ≠ i * 64 := fun o dd e => hr.dom o dd (e ▸ hn0)
      have hf1 := hf.le hs.l
      have hvr : VR (X0 P n W w Z) (upd β (i * 64) ⟨0, 0, A, x.1.length, c, e.n⟩) (fun o => D o ∨ o = i * 64) Z w (.arr (i * 64)) (.slice A x.1.length c) := ⟨.inr rfl, by rw [upd_same]⟩
      have hdr : DR (VR (X0 P n W w Z) (upd β (i * 64) ⟨0, 0, A, x.1.length, c, e.n⟩) (fun o => D o ∨ o = i * 64) Z w) (.v false [.arr (i * 64)]) (.slice A x.1.length c) := hvr
      refine owned _ r (.v false [.arr (i * 64)]) [(i * 64, .arr e d false x.1)] [] [] x.2 T1 T2 hs h2 (fun z hz => ?_) ⟨_, _, _, hr.new (i * 64) hn0 ⟨0, 0, A, x.1.length, c, e.n⟩ (.arr e d false x.1) (by simp) T1 hf1.f hf1.b hf1.z (fun o _ => hf1.s o) ?_, hdr, trivial, fun o dd => ⟨.inl dd, upd_ne _ _ (hnD o dd)⟩, fun o b' j s => ?_⟩ fun ov h => h
      · rw [List.mem_singleton.1 hz]; exact ⟨Nat.le_refl _, by show i * 64 < (i + 1) * 64; omega⟩
      · show _ ∧ _ ∧ _
        rw [upd_same]
        exact ⟨rfl, rfl, hO⟩
      · by_cases e : o = i * 64
        · subst e; rw [upd_same] at s; exact .inr s
        · rw [upd_ne _ _ e] at s; exact .inl s
    | z e =>
      obtain ⟨A, r, rfl, h2⟩ := hA
      exact plain _ r _ x T (CS.le.refl _) h2 (fun β' D' _ => ⟨A, rfl⟩) fun ov h => h
    | f p q =>
      obtain ⟨v, r, rfl, hfn, h2⟩ := hA
      exact plain v r _ x.2 T (CS.le.refl _) h2 (fun β' D' _ => hfn) fun ov h => h
end
end Go.Dn
/- What a function leaves; what a function's code is worth: a contract. -/
set_option linter.unusedVariables false
namespace Go.Dn

theorem mapM_run {α β : Type} {P : Program} {w : World} {f : α → Sem β} {xs0 : Array α} {vs : List β} (hl : vs.length = xs0.size) (h : ∀ i (hi : i < xs0.size) (hv : i < vs.length), (f xs0[i]).run P w = .ok vs[i] w) : (xs0.mapM f).run P w = .ok vs.toArray w := by
  have key : ∀ (l : List α) (us : List β), us.length = l.length → (∀ i (hi : i < l.length) (hv : i < us.length), (f l[i]).run P w = .ok us[i] w) → (l.mapM f).run P w = .ok us w := by
    intro l
    induction l with
    | nil =>
      intro us hl _
      match us, hl with
      | [], _ => rfl
    | cons x l ih =>
      intro us hl h
      match us, hl with
      | u :: us, hl =>
        have h0 := h 0 (by simp) (by simp)
        simp only [List.getElem_cons_zero] at h0
        rw [List.mapM_cons]
        simp only [Sem.run_bind, h0, Result.andThen_ok]
        rw [ih us (by simpa using hl) fun i hi hv => by
          have := h (i + 1) (by simpa using hi) (by simpa using hv)
          simpa using this]
        rfl
  rw [Array.mapM_eq_mapM_toList, map_eq_pure_bind]
  simp only [Sem.run_bind]
  rw [key xs0.toList vs (by simpa using hl) fun i hi hv => by simpa using h i (by simpa using hi) hv]
  rfl

section
variable {X : Cx} {β : Nat → Pl} {D : Nat → Prop} {S : Nat → CS} {Z : CS} {outs : List CV} {a : Act} {w : World} {st : St}
theorem results_run {fn : Func} {tmps : Array Value} {P : Program} {vs : List Value} (hl : vs.length = fn.results.size)
    (h : ∀ i (hi : i < fn.results.size) (hv : i < vs.length), (match fn.results[i] with | .tmp t => (pure (tmps.getD t undef) : Sem Value) | .cell a t => (do loadVar t (← asAddr (tmps.getD a undef)))).run P w = .ok vs[i] w) : (results fn tmps).run P w = .ok (resV vs) w := by
  unfold results
  rw [Sem.run_bind, mapM_run hl (fun i hi hv => by
    have := h i hi hv
    revert this
    generalize fn.results[i] = r
    cases r <;> exact fun h => h)]
  simp only [Result.andThen_ok, Sem.run_pure]
  congr 1
  match vs with
  | [] => rfl
  | [v] => rfl
  | _ :: _ :: _ => rfl
theorem resultM_sound (hr : RelAt X β D S Z st.slot st.ob outs a w) {E : Env} (hE : TysOk X.P E) {r : ResultVar} {κ : K} {cs : List CV} (h : (resultM E st r κ).ev st.ob = some cs) :
    ∃ v us, (match r with | .tmp t => (pure (a.tmps.getD t undef) : Sem Value) | .cell b t => (do loadVar t (← asAddr (a.tmps.getD b undef)))).run X.P w = .ok v w ∧ pk κ us v ∧ All2 (VR X β D Z w) cs us := by
  cases r with
  | tmp t =>
    obtain ⟨us, h1, h2⟩ := dr_as (hr.slots t) h
    exact ⟨_, us, rfl, h1, h2⟩
  | cell b t =>
    simp only [resultM] at h
    obtain ⟨κ', h1, h2⟩ := ev_bind_some h
    obtain ⟨rfl, h3⟩ := ev_eqK h2
    obtain ⟨c, h4, h5⟩ := ev_bind_some h3
    have ht := hE.1 _ _ (ev_ofO h1)
    have hc := dr_cell_ok (hr.slots b) h4 (fun e => by rw [e] at h5; cases h5) (fun e => by rw [e] at h5; cases h5)
    obtain ⟨h6, us, h7, h8, b', off, hv, h9⟩ := loadM_sound hr hc h5
    have hrun : ∀ v, (loadVar t ⟨b', off, none⟩).run X.P w = .ok v w → (do loadVar t (← asAddr (a.tmps.getD b undef)) : Sem Value).run X.P w = .ok v w := fun v hv' => by
      rw [hv]
      simp [asAddr, hv']
    cases hk : κ'.agg with
    | true =>
      refine ⟨.agg us.toArray, us, hrun _ ?_, by simp [pk, hk], h8⟩
      have := run_loadCells_list (P := X.P) w ⟨b', off, none⟩ us fun j v hj => by rw [addr_add]; exact h9 j v hj
      rw [h7] at this
      simp [loadVar, run_isAgg' ht, run_sizeOf' ht, hk, this]
    | false =>
      have h10 : κ'.n = 1 := agg_cells hk
      rw [h10] at h7
      match us, h7, h8, h9 with
      | [u], _, h8, h9 =>
        refine ⟨u, [u], hrun u ?_, by simp [pk, hk], h8⟩
        have := h9 0 u rfl
        simp at this
        simp [loadVar, run_isAgg' ht, hk, this]
theorem resultsM_sound (hr : RelAt X β D S Z st.slot st.ob outs a w) {E : Env} (hE : TysOk X.P E) : ∀ (rv : List ResultVar) (rs : List (K × Q)) (y : Sig.Res rs × List Nat × List Nat), (resultsM E st rv rs).ev st.ob = some y → y.2.1.Nodup → (∀ o ∈ y.2.2, o ∉ y.2.1) →
    ∃ vs T Z', vs.length = rv.length ∧ (∀ (i : Nat) r v, rv[i]? = some r → vs[i]? = some v → (match r with | .tmp t => (pure (a.tmps.getD t undef) : Sem Value) | .cell b t => (do loadVar t (← asAddr (a.tmps.getD b undef)))).run X.P w = .ok v w) ∧ ResR Z' w rs y.1 vs T ∧
      T.le (US S y.2.1) ∧ Z.le Z' ∧ Z'.le (Z.or (US S (y.2.1 ++ y.2.2))) ∧ T.apart Z'
  | [], [], y, h, _, _ => by
    cases h
    exact ⟨[], CS.no, Z, rfl, fun i r v h => (by simp at h), rfl, CS.no_le _, CS.le.refl _, CS.le_l _ _, CS.no_apart _⟩
  | [], _ :: _, y, h, _, _ => by cases h
  | _ :: _, [], y, h, _, _ => by cases h
  | r :: rv, (κ, q) :: rs, y, h, hnd, hap => by
    simp only [resultsM] at h
    obtain ⟨cs, h1, h2⟩ := ev_bind_some h
    obtain ⟨x, h3, h4⟩ := ev_bind_some h2
    obtain ⟨y2, h5, h6⟩ := ev_bind_some h4
    cases h6
    simp only at hnd hap
    have n0 := List.nodup_append.1 hnd
    obtain ⟨v, us, k1, k2, k3⟩ := resultM_sound hr hE h1
    obtain ⟨T1, Z1, g⟩ := ofAll_sound hr h3 k3 n0.1 (fun o ho h => hap o (List.mem_append.2 (.inl ho)) (List.mem_append.2 (.inl h)))
    obtain ⟨vs, T2, Z2, q1, q2, q3, q4, q5, q6, q7⟩ := resultsM_sound hr hE rv rs y2 h5 n0.2.1 (fun o ho h => hap o (List.mem_append.2 (.inr ho)) (List.mem_append.2 (.inr h)))
    have hdd : ∀ o ∈ x.dead, o ∉ y2.2.1 := fun o h h' => n0.2.2 o h o h' rfl
    refine ⟨v :: vs, T1.or T2, Z1.or Z2, by simp [q1], fun i r' v' hr' hv' => ?_, ⟨v, us, vs, T1, T2, rfl, k2, H.more (CS.le_l _ _) _ _ _ _ _ g.h, ResR.more (CS.le_r _ _) _ _ _ _ q3, CS.le_l _ _, CS.le_r _ _, (US.apart hr hdd).mono g.t q4⟩, ?_, g.z.trans (CS.le_l _ _), ?_, ?_⟩
    · cases i with
      | zero => simp at hr' hv'; subst hr'; subst hv'; exact k1
      | succ i => exact q2 i r' v' (by simpa using hr') (by simpa using hv')
    · exact CS.or_le (g.t.trans (US.le fun o h => List.mem_append.2 (.inl h))) (q4.trans (US.le fun o h => List.mem_append.2 (.inr h)))
    · exact CS.or_le (g.z'.trans (CS.or_le (CS.le_l _ _) ((US.le fun o h => by simp at h ⊢; rcases h with h | h; exact .inl h; exact .inr (.inr (.inl h))).trans (CS.le_r _ _)))) (q6.trans (CS.or_le (CS.le_l _ _) ((US.le fun o h => by simp at h ⊢; rcases h with h | h; exact .inr (.inl h); exact .inr (.inr (.inr h))).trans (CS.le_r _ _))))
    · refine CS.or_apart (CS.apart_or g.d (two_apart hr g.t q6 fun o ho h => ?_)) (CS.apart_or (two_apart hr q4 g.z' fun o ho h => ?_) q7)
      · rcases List.mem_append.1 h with h | h
        · exact hdd o ho h
        · exact hap o (List.mem_append.2 (.inr h)) (List.mem_append.2 (.inl ho))
      · rcases List.mem_append.1 h with h | h
        · exact hdd o h ho
        · exact hap o (List.mem_append.2 (.inl h)) (List.mem_append.2 (.inr ho))
theorem outP_sound (hr : RelAt X β D S Z st.slot st.ob outs a w) : ∀ (ps : List PM) (cs : List CV) (vs ov : List Value) (y : Sig.OutP ps × List Nat × List Nat), (outPM ps cs).ev st.ob = some y → All2 (VR X β D Z w) cs ov → OVR ps vs ov → y.2.1.Nodup → (∀ o ∈ y.2.2, o ∉ y.2.1) →
    ∃ T Z', OutsR Z' w ps y.1 vs T ∧ T.le (US S y.2.1) ∧ Z.le Z' ∧ Z'.le (Z.or (US S (y.2.1 ++ y.2.2))) ∧ T.apart Z' := by
  intro ps
  induction ps with
  | nil =>
    intro cs vs ov y h hall ho hnd hap
    match cs with
    | [] => cases h; exact ⟨CS.no, Z, trivial, CS.no_le _, CS.le.refl _, CS.le_l _ _, CS.no_apart _⟩
    | _ :: _ => cases h
  | cons p ps ih =>
    intro cs vs ov y h hall ho hnd hap
    cases p with
    | b κ =>
      match vs, ho with
      | v :: vs, ho => exact ih cs vs ov y h hall ho hnd hap
    | r κ =>
      match vs, ho with
      | v :: vs, ho => exact ih cs vs ov y h hall ho hnd hap
    | c e d =>
      match vs, ho with
      | v :: vs, ho => exact ih cs vs ov y h hall ho hnd hap
    | z e =>
      match vs, ho with
      | v :: vs, ho => exact ih cs vs ov y h hall ho hnd hap
    | f p q =>
      match vs, ho with
      | v :: vs, ho => exact ih cs vs ov y h hall ho hnd hap
    | p κ q q' =>
      match vs, ho with
      | v :: vs, ⟨r, e, ho'⟩ =>
        subst e
        clear ho
        have ho := ho'
        have hcs : ∃ o cs1, cs = .box o 0 :: cs1 := by
          match cs with
          | [] => cases h
          | c :: cs1 =>
            cases c <;> try (cases h; done)
            rename_i o j
            cases j with
            | zero => exact ⟨o, cs1, rfl⟩
            | succ j => cases h
        obtain ⟨o, cs1, rfl⟩ := hcs
        · obtain ⟨⟨hD, hv⟩, hall⟩ := hall
          simp only [outPM] at h
          simp only [M.ev] at h
          split at h
          · rename_i c hoc
            obtain ⟨x, h3, h4⟩ := ev_bind_some h
            obtain ⟨y2, h5, h6⟩ := ev_bind_some h4
            cases h6
            simp only at hnd hap
            have hob := hr.objs o
            rw [hoc] at hob
            obtain ⟨us0, g1, g2⟩ := gather (R := fun c v => VR X β D Z w c v) (w := w) (b := (β o).b) c (β o).j fun i c' hi => by
              obtain ⟨_, v, h1, h2⟩ := hob i c' hi; exact ⟨v, h1.1, h2⟩
            have n0 := List.nodup_cons.1 hnd
            have n1 := List.nodup_append.1 n0.2
            have hdd : ∀ o ∈ x.dead, o ∉ y2.2.1 := fun o h h' => n1.2.2 o h o h' rfl
            obtain ⟨T1, Z1, g⟩ := ofAll_sound hr h3 g1 n1.1 (fun o ho h => hap o (List.mem_append.2 (.inl ho)) (.tail _ (List.mem_append.2 (.inl h))))
            obtain ⟨T2, Z2, q3, q4, q5, q6, q7⟩ := ih cs1 vs r y2 h5 hall ho n1.2.1 (fun o ho h => hap o (List.mem_append.2 (.inr ho)) (.tail _ (List.mem_append.2 (.inr h))))
            have hox : o ∉ x.dead := fun h => n0.1 (List.mem_append.2 (.inl h))
            have hoy : o ∉ y2.2.1 := fun h => n0.1 (List.mem_append.2 (.inr h))
            have hT1 : (CS.or (S o) T1).le (US S (o :: x.dead)) := CS.or_le (fun b i hh => ⟨o, .head _, hh⟩) (g.t.trans (US.le fun z hz => .tail _ hz))
            refine ⟨(CS.or (S o) T1).or T2, Z1.or Z2, ⟨(β o).b, (β o).j, vs, _, T2, by rw [hv, Nat.add_zero], ⟨us0, T1, H.more (CS.le_l _ _) _ _ _ _ _ g.h, CS.le_r _ _, fun i u hi => ?_⟩, OutsR.more (CS.le_r _ _) _ _ _ _ q3, CS.le_l _ _, CS.le_r _ _, ?_⟩, ?_, g.z.trans (CS.le_l _ _), ?_, ?_⟩
            · have hlt : i < c.length := by rw [g1.len]; exact (List.getElem?_eq_some_iff.1 hi).1
              obtain ⟨k1, v', k2, k3⟩ := hob i c[i] (by simp [hlt])
              have e : v' = u := by have := g2 i u hi; rw [k2.1] at this; exact Option.some.inj this
              refine ⟨e ▸ k2, .inl k1, fun t => ?_⟩
              obtain ⟨z, hz, s⟩ := g.t _ _ t
              exact hr.apart o z (fun e => hox (e ▸ hz)) _ _ k1 s
            · exact (US.apart hr fun z hz h' => by
                rcases List.mem_cons.1 hz with e | hz
                · rw [e] at h'; exact hoy h'
                · exact hdd z hz h').mono hT1 q4
            · exact CS.or_le (hT1.trans (US.le fun z hz => by
                rcases List.mem_cons.1 hz with rfl | hz
                · exact .head _
                · exact .tail _ (List.mem_append.2 (.inl hz)))) (q4.trans (US.le fun z hz => .tail _ (List.mem_append.2 (.inr hz))))
            · exact CS.or_le (g.z'.trans (CS.or_le (CS.le_l _ _) ((US.le fun z h => by simp at h ⊢; rcases h with h | h; exact .inr (.inl h); exact .inr (.inr (.inr (.inl h)))).trans (CS.le_r _ _)))) (q6.trans (CS.or_le (CS.le_l _ _) ((US.le fun z h => by simp at h ⊢; rcases h with h | h; exact .inr (.inr (.inl h)); exact .inr (.inr (.inr (.inr h)))).trans (CS.le_r _ _))))
            · refine CS.or_apart (CS.or_apart (CS.apart_or ?_ ?_) (CS.apart_or g.d ?_)) (CS.apart_or ?_ q7)
              · exact two_apart hr (I1 := [o]) (fun b i hh => ⟨o, .head _, hh⟩) g.z' fun z hz h => by
                  rw [List.mem_singleton.1 hz] at h
                  rcases List.mem_append.1 h with h | h
                  · exact hox h
                  · exact hap o (List.mem_append.2 (.inl h)) (.head _)
              · exact two_apart hr (I1 := [o]) (fun b i hh => ⟨o, .head _, hh⟩) q6 fun z hz h => by
                  rw [List.mem_singleton.1 hz] at h
                  rcases List.mem_append.1 h with h | h
                  · exact hoy h
                  · exact hap o (List.mem_append.2 (.inr h)) (.head _)
              · exact two_apart hr g.t q6 fun z hz h => by
                  rcases List.mem_append.1 h with h | h
                  · exact hdd z hz h
                  · exact hap z (List.mem_append.2 (.inr h)) (.tail _ (List.mem_append.2 (.inl hz)))
              · exact two_apart hr q4 g.z' fun z hz h => by
                  rcases List.mem_append.1 h with h | h
                  · exact hdd z h hz
                  · exact hap z (List.mem_append.2 (.inl h)) (.tail _ (List.mem_append.2 (.inr hz)))
          · cases h
    | m κ =>
      match vs, ho with
      | v :: vs, ⟨us, r, e, hp, hl, ho'⟩ =>
        subst e
        clear ho
        have ho := ho'
        simp only [outPM] at h
        obtain ⟨c, h1, h2⟩ := ev_bind_some h
        obtain ⟨x, h3, h4⟩ := ev_bind_some h2
        obtain ⟨y2, h5, h6⟩ := ev_bind_some h4
        cases h6
        obtain ⟨rfl, hlc⟩ := ev_takeN h1
        simp only at hnd hap
        have n0 := List.nodup_append.1 hnd
        have hdd : ∀ o ∈ x.dead, o ∉ y2.2.1 := fun o h h' => n0.2.2 o h o h' rfl
        have a1 := hall.take κ.n
        have a2 := hall.drop κ.n
        rw [← hl] at a1 a2
        simp only [List.take_left, List.drop_left] at a1 a2
        rw [hl] at a1 a2
        obtain ⟨T1, Z1, g⟩ := ofAll_sound hr h3 a1 n0.1 (fun o ho h => hap o (List.mem_append.2 (.inl ho)) (List.mem_append.2 (.inl h)))
        obtain ⟨T2, Z2, q3, q4, q5, q6, q7⟩ := ih _ vs r y2 h5 a2 ho n0.2.1 (fun o ho h => hap o (List.mem_append.2 (.inr ho)) (List.mem_append.2 (.inr h)))
        refine ⟨T1.or T2, Z1.or Z2, ⟨v, us, vs, T1, T2, rfl, hp, H.more (CS.le_l _ _) _ _ _ _ _ g.h, OutsR.more (CS.le_r _ _) _ _ _ _ q3, CS.le_l _ _, CS.le_r _ _, (US.apart hr hdd).mono g.t q4⟩, ?_, g.z.trans (CS.le_l _ _), ?_, ?_⟩
        · exact CS.or_le (g.t.trans (US.le fun o h => List.mem_append.2 (.inl h))) (q4.trans (US.le fun o h => List.mem_append.2 (.inr h)))
        · exact CS.or_le (g.z'.trans (CS.or_le (CS.le_l _ _) ((US.le fun o h => by simp at h ⊢; rcases h with h | h; exact .inl h; exact .inr (.inr (.inl h))).trans (CS.le_r _ _)))) (q6.trans (CS.or_le (CS.le_l _ _) ((US.le fun o h => by simp at h ⊢; rcases h with h | h; exact .inr (.inl h); exact .inr (.inr (.inr h))).trans (CS.le_r _ _))))
        · refine CS.or_apart (CS.apart_or g.d (two_apart hr g.t q6 fun o ho h => ?_)) (CS.apart_or (two_apart hr q4 g.z' fun o ho h => ?_) q7)
          · rcases List.mem_append.1 h with h | h
            · exact hdd o ho h
            · exact hap o (List.mem_append.2 (.inr h)) (List.mem_append.2 (.inl ho))
          · rcases List.mem_append.1 h with h | h
            · exact hdd o h ho
            · exact hap o (List.mem_append.2 (.inl h)) (List.mem_append.2 (.inr ho))
end
theorem look_slots {R : DV → Value → Prop} (hu : ∀ v, R (.v false [.und]) v) : ∀ (l : List (Nat × DV)) (vs : List Value) (i t : Nat), All2 (fun s v => R s.2 v) l vs → l.map (·.1) = List.range' i l.length → R (look (.v false [.und]) l t) ((vs[t - i]?).getD undef)
  | [], vs, i, t, h, hk => hu _
  | (j, d) :: l, [], i, t, h, hk => (h : False).elim
  | (j, d) :: l, v :: vs, i, t, ⟨h1, h2⟩, hk => by
    simp only [List.map_cons, List.length_cons, List.range'_succ] at hk
    have e1 := (List.cons.inj hk).1
    have e2 := (List.cons.inj hk).2
    subst e1
    simp only [look]
    cases hb : Nat.beq j t with
    | true =>
      have := Nat.eq_of_beq_eq_true hb
      subst this
      simpa using h1
    | false =>
      simp only [cond_false]
      by_cases hlt : j < t
      · have := look_slots hu l vs (j + 1) t h2 e2
        rwa [show t - j = (t - (j + 1)) + 1 by omega, List.getElem?_cons_succ]
      · have hno : look (.v false [.und]) l t = .v false [.und] := by
          have : ∀ (l : List (Nat × DV)) (i : Nat), l.map (·.1) = List.range' i l.length → t < i → look (.v false [.und]) l t = .v false [.und] := by
            intro l
            induction l with
            | nil => intro _ _ _; rfl
            | cons x l ih =>
              intro i hk hi
              simp only [List.map_cons, List.length_cons, List.range'_succ] at hk
              have e1 := (List.cons.inj hk).1
              simp only [look]
              rw [beq_ne (by omega)]
              exact ih (i + 1) (List.cons.inj hk).2 (by omega)
          refine this l (j + 1) e2 ?_
          have hne : j ≠ t := fun e => by rw [e, beq_self] at hb; cases hb
          omega
        rw [hno]; exact hu _
theorem contract_of {P : Program} {E : Env} {k : Nat} (hE : EnvOk P E k) {f : FuncId} {fn : Func} {c : Code} (hf : P.funcs[f]? = some fn) (hb : fn.body = some c) (hname : (fn.name == "runtime.NumGoroutine") = false) {sg : Sig} {hd : Hints} {ls : List (Nat × Lp sg.Out)} (hl : LoopsOk E k hd ls (loopsOf c)) {F : Sig.In sg.ps → Option sg.Out}
    (hF : ∀ x, denFn E k fn sg hd (runL k hd ls) x = F x) : Contract P f sg F := by
  refine ⟨fn, hf, by rw [hb]; rfl, hname, fun x y hy w Z W vs hZb hWb hWZ hA => ?_⟩
  rw [← hF] at hy
  unfold denFn at hy
  rw [hb] at hy
  simp only at hy
  cases hchk : (dstsOk fn.ntmps c && (Nat.ble sg.ps.length fn.ntmps && psOk sg.ps)) with
  | false => rw [hchk] at hy; cases hy
  | true =>
    rw [hchk] at hy
    simp only [Bool.and_eq_true] at hchk
    simp only [cond_true] at hy
    have hlen := hA.len
    have hnt := Nat.le_of_ble_eq_true hchk.2.1
    refine calls_of_wp hf hb ?_
    have hsz : (vs.toArray ++ Array.replicate (fn.ntmps - vs.toArray.size) undef).size = fn.ntmps := by simp; omega
    have hr0 : RelAt (X0 P fn.ntmps W w Z) (fun _ => ⟨0, 0, none, 0, 0, 0⟩) (fun _ => False) (fun _ => CS.no) Z (fun _ => .v false [.und]) (fun _ => .non) [] { tmps := vs.toArray ++ Array.replicate (fn.ntmps - vs.toArray.size) undef, defers := [] } w :=
      ⟨hsz, rfl, fun _ => trivial, fun _ => trivial, trivial, fun _ h => h.elim, fun _ _ _ => CS.no_apart _, fun _ => CS.no_apart _, fun _ => ⟨CS.no_le _, fun _ _ h => h.elim⟩, fun b j z => .inl z, hZb, CS.le.refl _, Agr.refl _ _⟩
    obtain ⟨β, D, S, ov, k1, k2, k3, k4, k5, _⟩ := entryAll_sound sg.ps 0 x vs W _ _ _ _ hchk.2.2 hA (CS.le.refl _) hr0 ⟨fun b j t => .inl t, hWb, hWZ, fun _ => CS.apart_no _⟩ (fun _ _ => rfl)
    let X : Cx := ⟨P, fn.ntmps, W, w, Z, ov⟩
    have hlk := k2.len
    have hrE : Rel X (entry sg.ps x) { tmps := vs.toArray ++ Array.replicate (fn.ntmps - vs.toArray.size) undef, defers := [] } w := by
      refine ⟨β, D, S, Z, ?_⟩
      have eob : (entry sg.ps x).ob = updAll (fun _ => OB.non) (entryAll 0 sg.ps x).2.1 := by
        funext i
        show look .non (entryAll 0 sg.ps x).2.1 i = _
        exact look_updAll _ i (entry_nodup sg.ps 0 x hchk.2.2).1
      constructor
      · exact k1.size
      · rfl
      · intro t
        show DR _ (look _ (entryAll 0 sg.ps x).1 t) _
        have h1 := look_slots (R := DR (VR X β D Z w)) (fun v => trivial) (entryAll 0 sg.ps x).1 vs 0 t (All2.imp (fun s v h => DR.imp (fun c v h => vr_ov [] ov h) _ _ h) _ _ k2) (by rw [k3, hlk, hlen])
        have e : (vs.toArray ++ Array.replicate (fn.ntmps - vs.toArray.size) undef).getD t undef = (vs[t - 0]?).getD undef := by
          rw [Array.getD_eq_getD_getElem?, Nat.sub_zero]
          by_cases ht : t < vs.length
          · rw [Array.getElem?_append_left (by simpa using ht)]; simp
          · rw [Array.getElem?_append_right (by simpa using ht), Array.getElem?_replicate, List.getElem?_eq_none (by omega)]
            split <;> rfl
        simp only
        rw [e]; exact h1
      · intro o
        rw [eob]
        exact or_ov [] ov (k1.objs o)
      · exact All2.imp (fun c v h => vr_ov [] ov h) _ _ k4
      · intro o d
        rw [eob]
        exact k1.dom o d
      · exact k1.apart
      · exact k1.sz
      · exact k1.sin
      · exact k1.zin
      · exact k1.zbd
      · exact k1.z0
      · exact k1.agr
    refine den_sound (X := X) hE c hchk.1 hl _ _ _ w _ hy hrE fun e st a w' hr hc0 => ?_
    have hc : finish E sg fn.results.toList st = some y := by
      cases e with
      | normal => exact hc0
      | ret => exact hc0
      | exit id => cases hc0
    have hex : e = .normal ∨ e = .ret := by
      cases e with
      | normal => exact .inl rfl
      | ret => exact .inr rfl
      | exit id => exact absurd hc0 (by simp [hard])
    obtain ⟨β', D', S', Z', hr⟩ := hr
    unfold finish at hc
    obtain ⟨y', lg, h1, h2⟩ := M.run_some _ _ _ _ hc
    cases h2
    obtain ⟨x1, h3, h4⟩ := ev_bind_some h1
    obtain ⟨y1, h5, h6⟩ := ev_bind_some h4
    cases hck : (nodupN (x1.2.1 ++ y1.2.1) && apartN (x1.2.2 ++ y1.2.2) (x1.2.1 ++ y1.2.1)) with
    | false => rw [hck] at h6; cases h6
    | true =>
      rw [hck] at h6
      cases h6
      simp only [Bool.and_eq_true] at hck
      have hnd := nodupN_ok hck.1
      have hap := apartN_ok hck.2
      have n0 := List.nodup_append.1 hnd
      obtain ⟨rvs, T1, Z1, q1, q2, q3, q4, q5, q6, q7⟩ := resultsM_sound hr hE.ty _ _ x1 h3 n0.1 (fun o ho h => hap o (List.mem_append.2 (.inl ho)) (List.mem_append.2 (.inl h)))
      obtain ⟨T2, Z2, p3, p4, p5, p6, p7⟩ := outP_sound hr sg.ps st.outs vs ov y1 h5 hr.outs k5 n0.2.1 (fun o ho h => hap o (List.mem_append.2 (.inr ho)) (List.mem_append.2 (.inr h)))
      have hdd : ∀ o ∈ x1.2.1, o ∉ y1.2.1 := fun o h h' => n0.2.2 o h o h' rfl
      have hSF : ∀ (l : List Nat) b j, US S' l b j → W b j ∨ w.heap.size ≤ b := fun l b j ⟨o, _, s⟩ => (hr.sin o).1 b j s
      have hSB : ∀ (l : List Nat) b j, US S' l b j → b < w'.heap.size := fun l b j ⟨o, _, s⟩ => (hr.sin o).2 b j s
      have hZF : ∀ b j, Z' b j → Z b j ∨ W b j ∨ w.heap.size ≤ b := fun b j z => hr.zin b j z
      have hrun : (results fn a.tmps).run P w' = .ok (resV rvs) w' := results_run (by rw [q1]; simp) fun i hi hv => q2 i _ _ (by simp [hi]) (by simp [hv])
      have hpost : bodyPost P fn (fun e w'_1 => ∃ v rv Z' T1 T2, e = .returned v ∧ Ended Z W w sg vs (x1.1, y1.1) v w'_1 rv Z' T1 T2) .ret a w' := by
        refine ⟨hr.defers, _, hrun, _, rvs, Z1.or Z2, T1, T2, rfl, rfl, hr.agr, hr.z0.trans (q5.trans (CS.le_l _ _)), fun b j z => ?_, fun b j z => ?_, ResR.more (CS.le_l _ _) _ _ _ _ q3, OutsR.more (CS.le_r _ _) _ _ _ _ p3, (US.apart hr hdd).mono q4 p4, CS.apart_or q7 (two_apart hr q4 p6 fun o ho h => ?_), CS.apart_or (two_apart hr p4 q6 fun o ho h => ?_) p7, fun b j t => hSB _ b j (q4 b j t), fun b j t => hSB _ b j (p4 b j t), fun b j t => hSF _ b j (q4 b j t), fun b j t => hSF _ b j (p4 b j t)⟩
        · rcases z with z | z
          · rcases q6 b j z with z | z
            · exact hr.zbd b j z
            · exact hSB _ b j z
          · rcases p6 b j z with z | z
            · exact hr.zbd b j z
            · exact hSB _ b j z
        · rcases z with z | z
          · rcases q6 b j z with z | z
            · exact hZF b j z
            · exact .inr (hSF _ b j z)
          · rcases p6 b j z with z | z
            · exact hZF b j z
            · exact .inr (hSF _ b j z)
        · rcases List.mem_append.1 h with h | h
          · exact hdd o ho h
          · exact hap o (List.mem_append.2 (.inr h)) (List.mem_append.2 (.inl ho))
        · rcases List.mem_append.1 h with h | h
          · exact hdd o h ho
          · exact hap o (List.mem_append.2 (.inl h)) (List.mem_append.2 (.inr ho))
      rcases hex with rfl | rfl
      · exact hpost
      · exact hpost
where
  look_updAll : ∀ (l : List (Nat × OB)) (i : Nat), (l.map (·.1)).Nodup → look OB.non l i = updAll (fun _ => OB.non) l i := by
    intro l i hnd
    have key : ∀ (l : List (Nat × OB)) (f : Nat → OB), (l.map (·.1)).Nodup → updAll f l i = (if i ∈ l.map (·.1) then look OB.non l i else f i) := by
      intro l
      induction l with
      | nil => intro f _; rfl
      | cons x l ih =>
        intro f hnd
        obtain ⟨j, b⟩ := x
        simp only [List.map_cons] at hnd
        have n0 := List.nodup_cons.1 hnd
        show updAll (upd f j b) l i = _
        rw [ih _ n0.2]
        by_cases e : i = j
        · subst e
          rw [if_neg n0.1, if_pos (by simp), upd_same]
          simp [look]
        · rw [upd_ne _ _ e]
          have e2 : Nat.beq j i = false := beq_ne fun h => e h.symm
          simp only [List.map_cons, List.mem_cons, e, false_or, look, e2, cond_false]
    rw [key l _ hnd]
    split
    · rfl
    · rename_i h
      have : ∀ (l : List (Nat × OB)), i ∉ l.map (·.1) → look OB.non l i = .non := by
        intro l
        induction l with
        | nil => intro _; rfl
        | cons x l ih =>
          intro h
          simp only [List.map_cons, List.mem_cons, not_or] at h
          simp only [look]
          rw [beq_ne fun e => h.1 e.symm]
          exact ih h.2
      exact this l h
  give_nodup : ∀ (κ : K) (q : Q) (x : κ.T) (i : Nat), ((κ.give q x i).2.1.map (·.1)).Nodup
    | .int _, q, _, _ => by cases q <;> exact .nil
    | .bool, q, _, _ => by cases q <;> exact .nil
    | .str, q, _, _ => by cases q <;> exact .nil
    | .unit, q, _, _ => by cases q <;> exact .nil
    | .pair a b, q, x, i => by
      simp only [K.give, List.map_append]
      refine List.nodup_append.2 ⟨give_nodup a _ _ _, give_nodup b _ _ _, fun z hz z' hz' e => ?_⟩
      obtain ⟨p, hp, rfl⟩ := List.mem_map.1 hz
      obtain ⟨p', hp', rfl⟩ := List.mem_map.1 hz'
      have h1 := (give_ids a q.l x.1 i).2 p hp
      have h2 := (give_ids b q.r x.2 _).2 p' hp'
      omega
    | .sl _, q, _, _ => by cases q <;> simp [K.give]
  entry_nodup : ∀ (ps : List PM) (i : Nat) (x : Sig.In ps), psOk ps = true → ((entryAll i ps x).2.1.map (·.1)).Nodup ∧ ∀ z ∈ (entryAll i ps x).2.1, i * 64 ≤ z.1 := by
    intro ps
    induction ps with
    | nil => intro i x _; exact ⟨.nil, fun z hz => by cases hz⟩
    | cons p ps ih =>
      intro i x hps
      have hps2 : psOk ps = true := by unfold psOk at hps ⊢; simp only [List.all_cons, Bool.and_eq_true] at hps; exact hps.2
      have fin : ∀ (l r : List (Nat × OB)), (l.map (·.1)).Nodup → (∀ z ∈ l, i * 64 ≤ z.1 ∧ z.1 < (i + 1) * 64) → (r.map (·.1)).Nodup → (∀ z ∈ r, (i + 1) * 64 ≤ z.1) → ((l ++ r).map (·.1)).Nodup ∧ ∀ z ∈ l ++ r, i * 64 ≤ z.1 := fun l r h1 h2 h3 h4 => by
        refine ⟨?_, fun z hz => ?_⟩
        · rw [List.map_append]
          refine List.nodup_append.2 ⟨h1, h3, fun z hz z' hz' e => ?_⟩
          obtain ⟨p, hp, rfl⟩ := List.mem_map.1 hz
          obtain ⟨p', hp', rfl⟩ := List.mem_map.1 hz'
          have := h2 p hp
          have := h4 p' hp'
          omega
        · rcases List.mem_append.1 hz with hz | hz
          · exact (h2 z hz).1
          · have := h4 z hz; omega
      have plain : ∀ x2 : Sig.In ps, ((entryAll (i + 1) ps x2).2.1.map (·.1)).Nodup ∧ ∀ z ∈ (entryAll (i + 1) ps x2).2.1, i * 64 ≤ z.1 := fun x2 => by
        obtain ⟨h1, h2⟩ := ih (i + 1) x2 hps2
        exact ⟨h1, fun z hz => by have := h2 z hz; omega⟩
      cases p with
      | b κ => exact plain x.2
      | r κ => exact plain x.2
      | z e => exact plain x
      | f p q => exact plain x.2
      | c e d =>
        obtain ⟨h1, h2⟩ := ih (i + 1) x.2 hps2
        exact fin [(i * 64, _)] _ (by simp) (fun z hz => by rw [List.mem_singleton.1 hz]; exact ⟨Nat.le_refl _, by show i * 64 < (i + 1) * 64; omega⟩) h1 h2
      | m κ =>
        have hk : 2 * κ.n ≤ 64 := by unfold psOk at hps; simp only [List.all_cons, Bool.and_eq_true] at hps; exact Nat.le_of_ble_eq_true hps.1
        obtain ⟨h1, h2⟩ := ih (i + 1) x.2 hps2
        have gi := give_ids κ .dp x.1 (i * 64)
        have gt := give_top κ .dp x.1 (i * 64)
        exact fin _ _ (give_nodup _ _ _ _) (fun z hz => by have := gi.2 z hz; omega) h1 h2
      | p κ q q' =>
        have hk : 2 * κ.n + 2 ≤ 64 := by unfold psOk at hps; simp only [List.all_cons, Bool.and_eq_true] at hps; exact Nat.le_of_ble_eq_true hps.1
        obtain ⟨h1, h2⟩ := ih (i + 1) x.2 hps2
        have gi := give_ids κ q x.1 (i * 64 + 2)
        have gt := give_top κ q x.1 (i * 64 + 2)
        refine fin ((i * 64, .box (κ.give q x.1 (i * 64 + 2)).1) :: (κ.give q x.1 (i * 64 + 2)).2.1) _ ?_ (fun z hz => ?_) h1 h2
        · rw [List.map_cons]
          refine List.nodup_cons.2 ⟨fun h => ?_, give_nodup _ _ _ _⟩
          obtain ⟨z, hz, e⟩ := List.mem_map.1 h
          have := (gi.2 z hz).1
          simp only at e
          omega
        · rcases List.mem_cons.1 hz with rfl | hz
          · exact ⟨Nat.le_refl _, by show i * 64 < (i + 1) * 64; omega⟩
          · have := gi.2 z hz; omega
end Go.Dn
/- A law's arguments, read as values; a law's row, out of a contract. -/
set_option linter.unusedVariables false
namespace Go.Dn
open Go.RowKit Go.ChangeShapes Go.WideShapes

/-! ### Structs that are compared -/
def namesB : List Field → Bool
  | [] => true
  | f :: fs => !(f.name == "_") && namesB fs
def eqTypeB (P : Program) (t : TypeId) : Bool :=
  (!P.eqGuardType P.depth t) && ((!P.stoodInHeld t) && (match P.underlying t with
    | some (.struct fs) => namesB fs.toList
    | _ => false))
def eqsB (P : Program) (E : Env) : Bool := E.eqs.all (eqTypeB P)
theorem eqFields_run {P : Program} (w : World) (xs ys : Array Value) (d : Nat) : ∀ (κ : K) (fs : List Field) (i : Nat) (us us' : List Value) (b : Bool), (TyR P κ).2 fs i → namesB fs = true → xs.toList.drop i = us → ys.toList.drop i = us' → K.eatW κ us → eqVals us us' = some b →
    (Op.eqFields (d + 1) xs ys fs).run P w = .ok b w
  | .unit, fs, i, us, us', b, hf, hn, hx, hy, hu, he => by
    have : fs = [] := hf
    subst this
    match us, hu with
    | [], _ =>
      match us', he with
      | [], he => cases he; rfl
  | .pair a κ, fs, i, us, us', b, hf, hn, hx, hy, hu, he => by
    obtain ⟨f, r, rfl, h1, h2, h3, h4⟩ := hf
    simp only [namesB, Bool.and_eq_true, Bool.not_eq_true', beq_eq_false_iff_ne] at hn
    have one : ∀ (u u' : Value) (c : Bool) (us1 us1' : List Value) (t : Bool), us = u :: us1 → us' = u' :: us1' → a.n = 1 → a.agg = false → (Op.equalIn (d + 1) f.type u u').run P w = .ok c w → K.eatW κ us1 → eqVals us1 us1' = some t → b = (c && t) →
        (Op.eqFields (d + 1) xs ys (f :: r)).run P w = .ok b w := fun u u' c us1 us1' t e1 e2 hn1 hag he1 hw ht hb => by
      have x1 : xs[i]? = some u := by
        have := congrArg (fun l => l[0]?) (hx.trans e1)
        simpa using this
      have y1 : ys[i]? = some u' := by
        have := congrArg (fun l => l[0]?) (hy.trans e2)
        simpa using this
      have x2 : xs.toList.drop (i + 1) = us1 := by
        have := congrArg (List.drop 1) (hx.trans e1)
        simpa [List.drop_drop, Nat.add_comm] using this
      have y2 : ys.toList.drop (i + 1) = us1' := by
        have := congrArg (List.drop 1) (hy.trans e2)
        simpa [List.drop_drop, Nat.add_comm] using this
      rw [hn1] at h4
      have ih := eqFields_run w xs ys d κ r (i + 1) us1 us1' t h4 hn.2 x2 y2 hw ht
      have px : (part f.type xs f.offset).run P w = .ok u w := by simp [part, run_isAgg' h3, hag, h1, x1]
      have py : (part f.type ys f.offset).run P w = .ok u' w := by simp [part, run_isAgg' h3, hag, h1, y1]
      simp only [Op.eqFields, ne_eq, hn.1, not_false_eq_true, if_true, Sem.run_bind, px, py, Result.andThen_ok, he1]
      cases c with
      | true => simp [ih, hb]
      | false => simp [hb]
    match us, hu with
    | [], hu => cases a <;> exact hu.elim
    | u :: us1, hu =>
      match us', he with
      | [], he => cases u <;> cases he
      | u' :: us1', he =>
        cases a <;> cases u <;> first | exact (hu : False).elim | skip
        case int.int k k1 n1 =>
          cases u' <;> first | (cases he; done) | skip
          rename_i k2 n2
          simp only [eqVals] at he
          split at he
          · rename_i e
            subst e
            cases ht : eqVals us1 us1' with
            | none => rw [ht] at he; cases he
            | some t =>
              rw [ht] at he
              exact one _ _ _ _ _ t rfl rfl rfl rfl (run_equalIn_int w d _ _ _ _ _ h3.1) hu ht (Option.some.inj he).symm
          · cases he
        case bool.bool b1 =>
          cases u' <;> first | (cases he; done) | skip
          simp only [eqVals] at he
          cases ht : eqVals us1 us1' with
          | none => rw [ht] at he; cases he
          | some t =>
            rw [ht] at he
            exact one _ _ _ _ _ t rfl rfl rfl rfl (run_equalIn_bool' w d _ _ _ h3.1) hu ht (Option.some.inj he).symm
        case str.string s1 =>
          cases u' <;> first | (cases he; done) | skip
          simp only [eqVals] at he
          cases ht : eqVals us1 us1' with
          | none => rw [ht] at he; cases he
          | some t =>
            rw [ht] at he
            refine one _ _ _ _ _ t rfl rfl rfl rfl (run_equalIn_string w d _ _ _ h3.1) hu ht ?_
            rw [← beq_toListBytes]; exact (Option.some.inj he).symm
  | .int _, fs, i, us, us', b, hf, _, _, _, _, _ => hf.elim
  | .bool, fs, i, us, us', b, hf, _, _, _, _, _ => hf.elim
  | .str, fs, i, us, us', b, hf, _, _, _, _, _ => hf.elim
  | .sl _, fs, i, us, us', b, hf, _, _, _, _, _ => hf.elim
theorem eqsB_spec {P : Program} {E : Env} (hE : TysOk P E) (h : eqsB P E = true) : EqsOk P E := fun t κ hm hk => by
  have ht := hE.1 t κ hk
  have := List.all_eq_true.1 h t ((memN_iff _ _).1 hm)
  simp only [eqTypeB, Bool.and_eq_true, Bool.not_eq_true'] at this
  obtain ⟨h1, h2, h3⟩ := this
  refine ⟨h1, fun us us' b w hu he => ?_⟩
  split at h3
  · rename_i fs hfs
    have hfo : P.fieldsOf t = fs := by simp [Program.fieldsOf, hfs]
    rw [run_equalIn_struct w 9999 t us us' (by rw [hfo]; exact hfs) h2, hfo]
    cases κ with
    | pair a k2 =>
      obtain ⟨fs', f, r, k1, _, e2, k3, k4, k5, k6⟩ := ht
      rw [hfs] at k1
      cases k1
      exact eqFields_run w us us' 9998 (.pair a k2) fs.toList 0 _ _ b ⟨f, r, e2, k3, k4, k5, by simpa using k6⟩ h3 (by simp) (by simp) hu he
    | unit => exact ht.elim
    | _ => exact (hu : False).elim
  · cases h3

/-! ### Arguments, read -/
/-- Numbers of their kinds. -/
def K.wf : (κ : K) → κ.T → Prop
  | .int k, n => (Lit.int k n).wf = true
  | .pair a b, x => a.wf x.1 ∧ b.wf x.2
  | .sl e, l => ∀ y ∈ l, e.wf y
  | _, _ => True
/-- How much it holds. -/
def K.big : (κ : K) → κ.T → Nat
  | .str, s => s.size
  | .pair a b, x => a.big x.1 + b.big x.2
  | .sl e, l => (l.map fun y => e.big y + 1).sum
  | _, _ => 0
structure BulkOk {H : Type} (bulk : DataW H → Nat) (all : List (DataW H) → Nat) : Prop where
  int : ∀ k n, bulk (.lit (.int k n)) = 1
  bool : ∀ b, bulk (.lit (.bool b)) = 1
  str : ∀ b, bulk (.lit (.string b)) = b.length + 1
  nil : bulk .nil = 1
  slice : ∀ e s, bulk (.slice e s) = all e + all s + 1
  agg : ∀ p, bulk (.agg p) = all p + 1
  anil : all [] = 0
  acons : ∀ d r, all (d :: r) = bulk d + all r

section
variable {H0 : Type} {enc : TypeId × Value → H0} {P : Program} {w : World} {base : Nat} {spare : Nat → Bool} {held : Bool} {Z : CS} {bulk : DataW H0 → Nat} {all : List (DataW H0) → Nat}
theorem cells_n {κ : K} {t : TypeId} (h : TyOk P κ t) : P.cellsOf t = κ.n := by
  obtain ⟨i, h1, h2, _⟩ := h.info
  simp [Program.cellsOf, h1, h2]
theorem cell_spot {a : Addr} {v : Value} (h : w.cell? a = some v) : a.spot = none := by
  unfold World.cell? at h
  split at h
  · split at h
    · cases h
    · rename_i hs
      cases e : a.spot with
      | none => rfl
      | some s => rw [e] at hs; simp at hs
  · cases h
/-- What reads as a row of elements, from element i on. -/
theorem open_row (hZ : ∀ b j v, w.cell? ⟨b, j, none⟩ = some v → Z b j) {e : K} (a0 : Addr) (D : Nat → DataW H0) (hbulk : BulkOk bulk all) :
    ∀ (n i : Nat), (∀ j, j < n → ∃ (cs : List Value) (y : e.T), w.cells? base (a0.add ((i + j) * e.n)) e.n = some cs ∧ H Z w .rd e y cs CS.no ∧ e.wf y ∧ e.big y + 1 ≤ bulk (D (i + j))) →
      ∃ (ys : List e.T) (cs : List Value), ys.length = n ∧ HL (H Z w .rd e) ys cs CS.no ∧ cs.length = n * e.n ∧ (∀ (j : Nat) u, cs[j]? = some u → w.cell? (a0.add (i * e.n + j)) = some u) ∧ (∀ y ∈ ys, e.wf y) ∧ (ys.map fun y => e.big y + 1).sum ≤ all ((List.range' i n).map D)
  | 0, i, _ => ⟨[], [], rfl, rfl, by simp, fun j u h => (by simp at h), fun y h => (by cases h), by simp⟩
  | n + 1, i, h => by
    obtain ⟨cs, y, h1, h2, h3, h4⟩ := h 0 (by omega)
    obtain ⟨ys, cs', k1, k2, k3, k4, k5, k6⟩ := open_row hZ a0 D hbulk n (i + 1) fun j hj => by
      have := h (j + 1) (by omega)
      rwa [show i + (j + 1) = i + 1 + j by omega] at this
    obtain ⟨_, hl, hc⟩ := World.cells?_some h1
    refine ⟨y :: ys, cs ++ cs', by simp [k1], ⟨cs, cs', CS.no, CS.no, rfl, h2, k2, Sep.none _⟩, by simp [hl, k3, Nat.add_mul]; omega, fun j u hj => ?_, fun z hz => ?_, ?_⟩
    · by_cases hlt : j < e.n
      · rw [List.getElem?_append_left (by omega)] at hj
        have := hc j hlt
        rw [hj] at this
        rw [Nat.add_zero] at this
        rwa [Deep.add_add] at this
      · rw [List.getElem?_append_right (by omega), hl] at hj
        have := k4 (j - e.n) u hj
        rwa [show (i + 1) * e.n + (j - e.n) = i * e.n + j by rw [Nat.add_mul]; omega] at this
    · rcases List.mem_cons.1 hz with rfl | hz
      · exact h3
      · exact k5 z hz
    · rw [List.map_cons, List.sum_cons, List.range'_succ, List.map_cons, hbulk.acons]
      simp only [Nat.add_zero] at h4
      omega
theorem open_kind (hZ : ∀ b j v, w.cell? ⟨b, j, none⟩ = some v → Z b j) (hbulk : BulkOk bulk all) : ∀ (κ : K),
    (∀ t fuel cs x, TyOk P κ t → DataW.trod enc P w base spare held fuel t cs = some x → ∃ y : κ.T, H Z w .rd κ y cs CS.no ∧ κ.wf y ∧ κ.big y + 1 ≤ bulk x.1) ∧
    (∀ (fs : List Field) (off n : Nat) (cs : List Value) (xs : List (DataW H0 × List MemPlace)), (TyR P κ).2 fs off → xs.length = fs.length → (∀ (i : Nat) (f : Field), fs[i]? = some f → DataW.trod enc P w base spare held n f.type ((cs.drop f.offset).take (P.cellsOf f.type)) = xs[i]?) →
      ∃ y : κ.T, H Z w .rd κ y ((cs.drop off).take κ.n) CS.no ∧ κ.wf y ∧ κ.big y ≤ all (xs.map (·.1)))
  | .int k => ⟨fun t fuel cs x ht h => by
      obtain ⟨n, rfl, rfl, hw⟩ := DataW.trod_int ht.1 h
      exact ⟨n, by simp [H], hw, by show 0 + 1 ≤ bulk (.lit (.int k n)); rw [hbulk.int]; exact Nat.le_refl _⟩, fun _ _ _ _ _ h => h.elim⟩
  | .bool => ⟨fun t fuel cs x ht h => by
      obtain ⟨b, rfl, rfl⟩ := DataW.trod_bool ht.1 h
      exact ⟨b, by simp [H], trivial, by show 0 + 1 ≤ bulk (.lit (.bool b)); rw [hbulk.bool]; exact Nat.le_refl _⟩, fun _ _ _ _ _ h => h.elim⟩
  | .str => ⟨fun t fuel cs x ht h => by
      obtain ⟨s, rfl, rfl, hs⟩ := DataW.trod_string ht.1 h
      exact ⟨s, by simp [H], trivial, by show s.size + 1 ≤ bulk (.lit (.string s.data.toList)); rw [hbulk.str]; simp⟩, fun _ _ _ _ _ h => h.elim⟩
  | .unit => ⟨fun _ _ _ _ h => h.elim, fun fs off n cs xs hf hl h => ⟨(), by simp [H, K.n], trivial, Nat.zero_le _⟩⟩
  | .pair a b => by
    have two : ∀ (fs : List Field) (off n : Nat) (cs : List Value) (xs : List (DataW H0 × List MemPlace)), (TyR P (.pair a b)).2 fs off → xs.length = fs.length → (∀ (i : Nat) (f : Field), fs[i]? = some f → DataW.trod enc P w base spare held n f.type ((cs.drop f.offset).take (P.cellsOf f.type)) = xs[i]?) →
        ∃ y : (K.pair a b).T, H Z w .rd (.pair a b) y ((cs.drop off).take (K.pair a b).n) CS.no ∧ (K.pair a b).wf y ∧ (K.pair a b).big y ≤ all (xs.map (·.1)) := fun fs off n cs xs hf hl h => by
      obtain ⟨f, r, rfl, h1, h2, h3, h4⟩ := hf
      match xs, hl with
      | x :: xs, hl =>
        have h0 := h 0 f rfl
        rw [cells_n h3, h1] at h0
        obtain ⟨y1, k1, k2, k3⟩ := (open_kind hZ hbulk a).1 _ _ _ _ h3 h0
        obtain ⟨y2, k4, k5, k6⟩ := (open_kind hZ hbulk b).2 r (off + a.n) n cs xs h4 (by simpa using hl) fun i f' hi => by
          have := h (i + 1) f' (by simpa using hi)
          simpa using this
        refine ⟨(y1, y2), ⟨_, _, CS.no, CS.no, ?_, k1, k4, Sep.none _⟩, ⟨k2, k5⟩, ?_⟩
        · simp only [K.n]
          rw [List.take_add, List.drop_drop]
        · rw [List.map_cons, hbulk.acons]
          simp only [K.big]
          omega
    refine ⟨fun t fuel cs x ht h => ?_, two⟩
    obtain ⟨fs, f, r, h1, hinfo, h2, h3, h4, h5, h6⟩ := ht
    have hcell : P.cellsOf t = a.n + b.n := by
      obtain ⟨i, k1, k2, _⟩ := hinfo
      simp [Program.cellsOf, k1, k2]
    obtain ⟨xs, n, rfl, rfl, hl, hxl, hx⟩ := DataW.trod_struct h1 h
    obtain ⟨y, k1, k2, k3⟩ := two fs.toList 0 n cs xs ⟨f, r, h2, h3, h4, h5, by simpa using h6⟩ (by simpa using hxl) fun i f' hi => hx i f' (by simpa using hi)
    refine ⟨y, ?_, k2, by show _ ≤ bulk (.agg (xs.map (·.1))); rw [hbulk.agg]; omega⟩
    rw [List.drop_zero, List.take_of_length_le (by rw [hl, hcell]; exact Nat.le_refl _)] at k1
    exact k1
  | .sl e => ⟨fun t fuel cs x ht h => by
      obtain ⟨t', h1, h2, h3⟩ := TyOk.slice ht
      have hc := cells_n h3
      rcases Deep.open_slice h1 h with ⟨rfl, rfl⟩ | ⟨a0, len, cap, m, n, D, Pl, rfl, hb, hl, hm, hmm, rfl, hx⟩
      · exact ⟨[], ⟨none, 0, rfl, Nat.le_refl _, fun h => absurd h (Nat.lt_irrefl _)⟩, fun y h => (by cases h), by show 0 + 1 ≤ bulk .nil; rw [hbulk.nil]; exact Nat.le_refl _⟩
      · have hlm : len ≤ m := by rw [hmm]; split <;> omega
        obtain ⟨ys, cs, k1, k2, k3, k4, k5, k6⟩ := open_row (base := base) hZ a0 D hbulk (e := e) len 0 fun j hj => by
          obtain ⟨cs', q1, q2⟩ := hx j (by omega)
          obtain ⟨y, q3, q4, q5⟩ := (open_kind hZ hbulk e).1 _ _ _ _ h3 q2
          rw [hc] at q1
          exact ⟨cs', y, by simpa using q1, q3, q4, by simpa using q5⟩
        refine ⟨ys, ⟨some a0, cap, by rw [k1], by omega, fun hp => ?_⟩, k5, ?_⟩
        · have hlen : 0 < cs.length := by rw [k3]; exact Nat.mul_pos (by omega) h2
          obtain ⟨u, hu⟩ : ∃ u, cs[0]? = some u := ⟨cs[0], by simp [hlen]⟩
          have hsp : a0.spot = none := by
            have := cell_spot (k4 0 u hu)
            unfold Addr.add at this
            split at this
            · exact this
            · rename_i hne; simp at hne
          obtain ⟨g, off, sp⟩ := a0
          simp only at hsp
          subst hsp
          refine ⟨g, off, cs, rfl, k2, fun j u hj => ?_⟩
          have := k4 j u hj
          rw [addr_add, Nat.zero_mul, Nat.zero_add] at this
          exact ⟨hZ _ _ _ this, this⟩
        · show (ys.map fun y => e.big y + 1).sum + 1 ≤ bulk (.slice _ _)
          rw [hbulk.slice]
          rw [List.range_eq_range']
          omega, fun _ _ _ _ _ h => h.elim⟩
/-- All old memory. -/
def Old (w : World) : CS := fun b _ => b < w.heap.size
theorem Old.cell {w : World} {b j : Nat} {v : Value} (h : w.cell? ⟨b, j, none⟩ = some v) : Old w b j := by
  obtain ⟨_, _, _, hb, _⟩ := heap_of_cell? h
  exact lt_of_heap hb
theorem open_arg {r : Reach} {b0 : Nat} (hbulk : BulkOk bulk all) {κ : K} {t : TypeId} (ht : TyOk P κ t) {v : Value} {d : DataW H0} {p : List MemPlace} (hv : Value.okWide P w r b0 t v) (h : DataW.Trod enc P w base spare held t v d p) :
    ∃ (y : κ.T) (us : List Value), pk κ us v ∧ H (Old w) w .rd κ y us CS.no ∧ κ.wf y ∧ κ.big y + 1 ≤ bulk d := by
  obtain ⟨fuel, hf⟩ := h
  obtain ⟨y, h1, h2, h3⟩ := (open_kind (fun b j v hc => Old.cell hc) hbulk κ).1 t fuel _ _ ht hf
  refine ⟨y, v.cells.toList, ?_, h1, h2, h3⟩
  unfold pk
  cases hk : κ.agg with
  | true =>
    cases κ with
    | pair a b =>
      obtain ⟨fs, f, _, k1, _⟩ := ht
      obtain ⟨cs, rfl, _⟩ := okWide_struct k1 hv
      simp [Value.cells]
    | unit => exact ht.elim
    | _ => cases hk
  | false =>
    have hn := agg_cells hk
    have hl := H.len _ _ _ _ _ h1
    rw [hn] at hl
    simp only [Bool.false_eq_true, if_false]
    have h1' := H.one _ _ _ _ _ h1
    cases v with
    | agg cs =>
      cases κ with
      | int k => obtain ⟨n, hn⟩ := okWide_int ht.1 hv; cases hn
      | bool => obtain ⟨n, hn⟩ := okWide_bool ht.1 hv; cases hn
      | str => obtain ⟨n, hn⟩ := okWide_string ht.1 hv; cases hn
      | sl e => obtain ⟨t', h2, _⟩ := TyOk.slice ht; obtain ⟨_, _, _, hn⟩ := okWide_slice h2 hv; cases hn
      | unit => cases hk
      | pair a b => cases hk
    | tuple cs =>
      cases κ with
      | int k => obtain ⟨n, hn⟩ := okWide_int ht.1 hv; cases hn
      | bool => obtain ⟨n, hn⟩ := okWide_bool ht.1 hv; cases hn
      | str => obtain ⟨n, hn⟩ := okWide_string ht.1 hv; cases hn
      | sl e => obtain ⟨t', h2, _⟩ := TyOk.slice ht; obtain ⟨_, _, _, hn⟩ := okWide_slice h2 hv; cases hn
      | unit => cases hk
      | pair a b => cases hk
    | _ => rfl
theorem BulkOk.le {bulk : DataW H0 → Nat} {all : List (DataW H0) → Nat} (h : BulkOk bulk all) : ∀ (l : List (DataW H0)) (d : DataW H0), d ∈ l → bulk d ≤ all l
  | x :: l, d, hd => by
    rw [h.acons]
    rcases List.mem_cons.1 hd with rfl | hd
    · exact Nat.le_add_right _ _
    · exact Nat.le_trans (h.le l d hd) (Nat.le_add_left _ _)
theorem Agr.below {w w' : World} (h : Agr CS.no w w') : Below w.heap.size w w' := ⟨h.os, h.tape, h.output, h.size, fun _ hk => h.whole hk⟩
end

/-! ### Functions, one after another -/
def FnsL (P : Program) (k : Nat) : List (Nat × FEnt) → Prop
  | [] => True
  | x :: r => Contract P x.1 x.2.sg (x.2.F k) ∧ FnsL P k r
theorem FnsL.get {P : Program} {k : Nat} : ∀ {l : List (Nat × FEnt)}, FnsL P k l → ∀ f ent, findO l f = some ent → Contract P f ent.sg (ent.F k)
  | (j, x) :: r, h, f, ent, hf => by
    simp only [findO] at hf
    cases e : Nat.beq j f with
    | true =>
      rw [e] at hf
      cases hf
      have := Nat.eq_of_beq_eq_true e
      subst this
      exact h.1
    | false =>
      rw [e] at hf
      exact FnsL.get h.2 f ent hf
theorem ok_of {P : Program} {E : Env} {k : Nat} (hT : TysOk P E) (hQ : EqsOk P E) (hN : FnsL P k E.fns) {f : FuncId} {fn : Func} (hf : P.funcs[f]? = some fn) (hb : fn.body.isSome = true) (hname : (fn.name == "runtime.NumGoroutine") = false) {sg : Sig} {hd : Hints} {ls : List (Nat × Lp sg.Out)} (hl : LoopsOk E k hd ls (loopsOf (fn.body.getD .skip)))
    {F : Sig.In sg.ps → Option sg.Out} (hF : ∀ x, denFn E k fn sg hd (runL k hd ls) x = F x) : Contract P f sg F := by
  cases hbd : fn.body with
  | none => rw [hbd] at hb; cases hb
  | some c =>
    rw [hbd] at hl
    exact contract_of ⟨hT, hQ, hN.get⟩ hf hbd hname hl hF
/-- What a law's contract says of a call. -/
theorem law_of {P : Program} {f : FuncId} {ps : List PM} {q : Q} {F : Sig.In ps → Option (Sig.Out ⟨ps, [(.bool, q)]⟩)} (hC : Contract P f ⟨ps, [(.bool, q)]⟩ F) {x : Sig.In ps} {y : Sig.OutP ps} (hx : F x = some ((true, ()), y)) {w : World} {vs : List Value} (hA : ArgsR P (Old w) CS.no w ps x vs CS.no) :
    Calls P f vs.toArray w fun e w' => e = .returned (.bool true) ∧ Below w.heap.size w w' := by
  obtain ⟨fn, _, _, _, h⟩ := hC
  refine (h x _ hx w (Old w) CS.no vs (fun b j hb => hb) (fun _ _ t => t.elim) (CS.no_apart _) hA).mono fun e w' ⟨v, rv, Z', T1, T2, he, hE⟩ => ?_
  obtain ⟨v', us, r, T3, T4, e1, hp, hh, hr, _⟩ := hE.res
  simp only [ResR] at hr
  subst hr
  refine ⟨?_, hE.agr.below⟩
  rw [he, hE.v, e1]
  have : us = [.bool true] := by cases q <;> simpa only [H] using hh
  subst this
  have : [Value.bool true] = [v'] := hp
  rw [show v' = .bool true from (List.cons.inj this).1.symm]
  rfl
end Go.Dn
/- Plain lemmas about what the generated functions are made of. -/
set_option linter.unusedVariables false
namespace Go.Dn

theorem share_eq {β ρ : Type} (a : β) (k : β → Option ρ) : Go.Dn.share a k = k a := rfl
theorem w64 {n : Int} (h1 : -9223372036854775808 ≤ n) (h2 : n ≤ 9223372036854775807) : IntKind.wrap .i64 n = n := IntWalk.i64_in n ⟨h1, h2⟩
theorem w8 {n : Int} (h1 : 0 ≤ n) (h2 : n ≤ 255) : IntKind.wrap .u8 n = n := IntWalk.u8_in n ⟨h1, h2⟩
theorem w8_mod (n : Int) : IntKind.wrap .u8 n = n % 256 := by rw [IntKind.wrap_u8]
theorem w8_wf (n : Int) : 0 ≤ IntKind.wrap .u8 n ∧ IntKind.wrap .u8 n ≤ 255 := by rw [w8_mod]; omega
theorem wu64 {n : Int} (h1 : 0 ≤ n) (h2 : n ≤ 18446744073709551615) : IntKind.wrap .u64 n = n := by
  simp [IntKind.wrap, IntKind.bits, IntKind.signed]; omega
theorem inB_eq {i : Int} {n : Nat} (h1 : 0 ≤ i) (h2 : i < n) : inB i n = true := by simp [inB, h1, h2]
theorem inBn {i n : Nat} (h : i < n) : inB (i : Int) (n : Int) = true := by simp [inB, h]
theorem roomy_ok {n b : Nat} (h : n * b ≤ 140737488355328) : roomy n b = true := Nat.ble_eq_true_of_le h
theorem roomy_le {n b : Nat} (N : Nat) (h : n ≤ N) (hN : N * b ≤ 140737488355328) : roomy n b = true := roomy_ok (Nat.le_trans (Nat.mul_le_mul_right b h) hN)
theorem lit_i64 {n : Int} (h : (Lit.int .i64 n).wf = true) : -9223372036854775808 ≤ n ∧ n ≤ 9223372036854775807 := by
  simpa [Lit.wf, IntKind.min, IntKind.max, IntKind.signed, IntKind.bits] using h
theorem lit_u8 {n : Int} (h : (Lit.int .u8 n).wf = true) : 0 ≤ n ∧ n ≤ 255 := by
  simpa [Lit.wf, IntKind.min, IntKind.max, IntKind.signed, IntKind.bits] using h

/-! ### Loops -/
/-- A loop that counts up, with an invariant. -/
theorem loop_up {σ ρ : Type} {len : Nat} (L : Nat → Int → σ → Option ρ) (P : Nat → σ → Prop) (R : Nat → σ → Option ρ)
    (hend : ∀ n s, P len s → L (n + 1) (len : Int) s = R len s)
    (hstep : ∀ n i s, i < len → P i s → L (n + 1) (i : Int) s = R i s ∨ ∃ s', L (n + 1) (i : Int) s = L n ((i + 1 : Nat) : Int) s' ∧ P (i + 1) s' ∧ R i s = R (i + 1) s') :
    ∀ n i s, i ≤ len → P i s → len - i < n → L n (i : Int) s = R i s := by
  intro n
  induction n with
  | zero => intro i s _ _ h; omega
  | succ n ih =>
    intro i s hi hP hn
    by_cases e : i = len
    · subst e; exact hend n s hP
    · rcases hstep n i s (by omega) hP with h | ⟨s', h1, h2, h3⟩
      · exact h
      · rw [h1, h3]; exact ih (i + 1) s' (by omega) h2 (by omega)
/-- The same, to one end. -/
theorem loop_inv {σ ρ : Type} {len : Nat} (L : Nat → Int → σ → Option ρ) (P : Nat → σ → Prop) (E : Option ρ)
    (hend : ∀ n s, P len s → L (n + 1) (len : Int) s = E)
    (hstep : ∀ n i s, i < len → P i s → ∃ s', L (n + 1) (i : Int) s = L n ((i + 1 : Nat) : Int) s' ∧ P (i + 1) s') :
    ∀ n i s, i ≤ len → P i s → len - i < n → L n (i : Int) s = E :=
  loop_up L P (fun _ _ => E) hend fun n i s hi hP => by
    obtain ⟨s', h1, h2⟩ := hstep n i s hi hP
    exact .inr ⟨s', h1, h2, rfl⟩
theorem next_i {i : Nat} (h : i < 4611686018427387904) : IntKind.wrap .i64 ((i : Int) + 1) = ((i + 1 : Nat) : Int) := by
  rw [w64 (by omega) (by omega)]; omega
theorem lt_dec {i n : Nat} (h : i < n) : decide ((i : Int) < (n : Int)) = true := decide_eq_true (by omega)
theorem lt_dec_f (n : Nat) : decide ((n : Int) < (n : Int)) = false := decide_eq_false (by omega)
theorem ge_dec {i n : Nat} (h : ¬ i < n) : decide ((i : Int) < (n : Int)) = false := decide_eq_false (by omega)

/-! ### Sizes -/
theorem big_mem {e : K} : ∀ {l : List e.T} {y : e.T}, y ∈ l → e.big y + 1 ≤ K.big (.sl e) l
  | x :: l, y, h => by
    simp only [K.big, List.map_cons, List.sum_cons]
    rcases List.mem_cons.1 h with rfl | h
    · omega
    · have := big_mem h
      simp only [K.big] at this
      omega
theorem big_len {e : K} : ∀ (l : List e.T), l.length ≤ K.big (.sl e) l
  | [] => Nat.zero_le _
  | x :: l => by
    have := big_len l
    simp only [K.big, List.map_cons, List.sum_cons, List.length_cons] at this ⊢
    omega
theorem big_int (k : IntKind) (l : List Int) : K.big (.sl (.int k)) l = l.length := by
  induction l with
  | nil => rfl
  | cons x l ih => simp only [K.big, List.map_cons, List.sum_cons, List.length_cons] at ih ⊢; omega
theorem getD_get {α : Type} {l : List α} {i : Nat} (d : α) (h : i < l.length) : l.getD (Int.toNat (i : Int)) d = l[i] := by
  simp [List.getD, h]
theorem set_keep {α : Type} {l ys : List α} {i : Nat} {v : α} (hl : l.length = ys.length) (hi : i < ys.length) (hp : ∀ j, j < i → l[j]? = ys[j]?) (hv : ys[i]? = some v) : (l.set i v).length = ys.length ∧ ∀ j, j < i + 1 → (l.set i v)[j]? = ys[j]? := by
  refine ⟨by simpa using hl, fun j hj => ?_⟩
  by_cases e : j = i
  · subst e; rw [List.getElem?_set_self (by omega), hv]
  · rw [List.getElem?_set_ne (fun h => e h.symm)]; exact hp j (by omega)
theorem all_eq {α : Type} {l ys : List α} (hl : l.length = ys.length) (h : ∀ j, j < ys.length → l[j]? = ys[j]?) : l = ys := by
  refine List.ext_getElem? fun j => ?_
  by_cases hj : j < ys.length
  · exact h j hj
  · rw [List.getElem?_eq_none (by omega), List.getElem?_eq_none (by omega)]
theorem bigp (a b : K) (x : (K.pair a b).T) : (K.pair a b).big x = a.big x.1 + b.big x.2 := rfl
theorem bigi (k : IntKind) (x : Int) : (K.int k).big x = 0 := rfl
theorem bigb (x : Bool) : K.bool.big x = 0 := rfl
theorem bigu (x : Unit) : K.unit.big x = 0 := rfl
theorem bigs (x : ByteArray) : K.str.big x = x.size := rfl
/-- No string, no slice in it. -/
def K.plainB : K → Bool
  | .int _ => true
  | .bool => true
  | .unit => true
  | .pair a b => a.plainB && b.plainB
  | _ => false
theorem plain_big : ∀ (κ : K) (x : κ.T), κ.plainB = true → κ.big x = 0
  | .int _, _, _ => rfl
  | .bool, _, _ => rfl
  | .unit, _, _ => rfl
  | .pair a b, x, h => by
    simp only [K.plainB, Bool.and_eq_true] at h
    simp only [K.big, plain_big a x.1 h.1, plain_big b x.2 h.2]
  | .str, _, h => by cases h
  | .sl _, _, h => by cases h
theorem flat_big {e : K} (h : e.plainB = true) (l : List e.T) : K.big (.sl e) l = l.length := by
  induction l with
  | nil => rfl
  | cons x l ih => simp only [K.big, List.map_cons, List.sum_cons, List.length_cons, plain_big e x h] at ih ⊢; omega
/-- Numbers from k on. -/
def upto (f : Int → Int) (k : Int) : Nat → List Int
  | 0 => []
  | n + 1 => f k :: upto f (k + 1) n
theorem upto_len (f : Int → Int) : ∀ (n : Nat) (k : Int), (upto f k n).length = n
  | 0, _ => rfl
  | n + 1, k => by simp [upto, upto_len f n]
theorem upto_get (f : Int → Int) : ∀ (n : Nat) (k : Int) (i : Nat), i < n → (upto f k n)[i]? = some (f (k + i))
  | 0, _, i, h => by omega
  | n + 1, k, 0, h => by simp [upto]
  | n + 1, k, i + 1, h => by
    simp only [upto, List.getElem?_cons_succ]
    rw [upto_get f n (k + 1) i (by omega)]
    congr 2
    omega
theorem next_k {k : Int} {i : Nat} (h0 : 0 ≤ k) (h : k ≤ 1152921504606846976) (hi : i ≤ 1152921504606846976) : IntKind.wrap .i64 (k + (i : Int) + 1) = k + ((i + 1 : Nat) : Int) := by
  rw [w64 (by omega) (by omega)]; omega
end Go.Dn
set_option linter.unusedVariables false
set_option maxRecDepth 100000
namespace Go.Proofs.YtliaeahjdenlfaaGreat
open Go Go.Dn
def kerrorAddressString : K := (.pair .str (.pair (.int .u64) .unit))
def kPrefix : K := (.pair (.int .i64) (.pair (.int .i64) .unit))
def kConfig : K := (.pair (.int .i64) kPrefix)
def kboundsError : K := (.pair (.int .i64) (.pair (.int .i64) (.pair .bool (.pair (.int .u8) .unit))))
def kEvent : K := (.pair (.int .i64) (.pair (.int .i64) (.pair (.sl (.int .u8)) .unit)))
def kWire : K := (.pair (.int .i64) (.pair (.sl (.int .u8)) (.pair (.int .i64) (.pair (.sl (.int .u8)) .unit))))
def kAttrs : K := (.pair (.int .i64) (.pair (.sl (.int .i64)) kConfig))
def kEntry : K := (.pair (.int .i64) (.pair kEvent .unit))
def kRule : K := (.pair kPrefix (.pair (.int .i64) (.pair (.int .i64) (.pair (.int .i64) (.pair .bool kPrefix)))))
def kWireResult : K := (.pair (.int .i64) (.pair (.sl (.int .u8)) (.pair kWire .unit)))
def kSettings : K := (.pair kConfig (.pair (.int .i64) (.pair (.sl kRule) (.pair (.sl kRule) .unit))))
def kNode : K := (.pair (.int .i64) (.pair .bool (.pair (.int .i64) (.pair (.int .i64) (.pair (.sl kEntry) (.pair (.int .i64) kConfig))))))
def kMail : K := (.pair (.int .i64) (.pair (.int .i64) (.pair (.int .i64) (.pair (.int .i64) (.pair (.int .i64) (.pair .bool (.pair kEntry .unit)))))))
def kPair : K := (.pair kSettings (.pair (.sl kNode) (.pair (.sl kWire) (.pair (.sl kMail) (.pair (.sl kEntry) .unit)))))
def tys : List (Nat × K) := [(2, (.int .i64)), (3, (.int .i64)), (4, .bool), (5, (.int .u8)), (6, (.int .u8)), (7, kboundsError), (8, kboundsError), (9, .str), (10, .str), (11, .str), (12, (.int .u64)), (13, kerrorAddressString), (14, kerrorAddressString), (21, (.int .i32)), (22, kConfig), (23, kConfig), (24, (.sl kRule)), (25, kSettings), (26, kSettings), (27, (.sl kNode)), (28, (.sl kWire)), (29, (.sl kMail)), (30, (.sl kEntry)), (31, kPair), (32, kPair), (35, kConfig), (36, (.sl kRule)), (37, kSettings), (38, kSettings), (39, (.sl kNode)), (40, (.sl kWire)), (41, (.sl kMail)), (42, (.sl kEntry)), (43, kPair), (44, kPair), (76, kNode), (77, kNode), (79, (.sl (.int .u8))), (80, kWire), (81, kWire), (83, kEvent), (84, kEvent), (85, kEntry), (86, kEntry), (87, kMail), (88, kMail), (92, kWire), (94, kEvent), (95, kEntry), (96, kEntry), (97, kNode), (98, kNode), (103, kMail), (104, kMail), (134, kPrefix), (135, kPrefix), (136, kRule), (137, kRule), (139, kPrefix), (140, kRule), (141, kRule), (157, (.int .u64)), (165, (.int .u32)), (166, (.int .u8)), (167, (.int .u8)), (170, (.int .i32)), (171, (.int .i32)), (179, kWireResult), (180, kWireResult), (181, (.sl (.int .i64))), (182, kAttrs), (183, kAttrs)]
def bys : List (Nat × Nat) := [(24, 64), (27, 88), (28, 64), (29, 96), (30, 48), (36, 64), (39, 88), (40, 64), (41, 96), (42, 48), (79, 1), (181, 8)]
def eqs : List Nat := [23, 35, 135, 139]
theorem tysOk0 : TysOk Tryz.prog ⟨tys, bys, [], []⟩ := tysB_spec (by kernel_rfl)
theorem tysOk (fns : List (Nat × FEnt)) (es : List Nat) : TysOk Tryz.prog ⟨tys, bys, fns, es⟩ := tysOk0
theorem eqsOk0 : EqsOk Tryz.prog ⟨tys, bys, [], eqs⟩ := eqsB_spec tysOk0 (by kernel_rfl)
theorem eqsOk (fns : List (Nat × FEnt)) : EqsOk Tryz.prog ⟨tys, bys, fns, eqs⟩ := eqsOk0
def laws_szRuleS.sg : Sig := ⟨[.b (.sl kRule), .b (.int .i64)], [((.int .i64), .rd)]⟩
def laws_szRuleS.E : Env := ⟨tys, bys, [], eqs⟩
def laws_szRuleS.F (k : Nat) (x : ((List ((Int × (Int × Unit)) × (Int × (Int × (Int × (Bool × (Int × (Int × Unit)))))))) × (Int × Unit))) : Option ((Int × Unit) × Unit) :=
  bif (decide (((IntKind.wrap .i64 (x.2.1 - (((List.length x.1) : Nat) : Int))) < (0 : Int)))) then
  (some (((-(1 : Int)), ()), ()))
  else some (((IntKind.wrap .i64 (x.2.1 - (((List.length x.1) : Nat) : Int))), ()), ())
def laws_szRuleS.hd : Hints := ⟨[], [], [4], [0, 1], []⟩
def laws_szRuleS.lps (k : Nat) : List (Nat × Lp laws_szRuleS.sg.Out) := []
theorem laws_szRuleS.loops (k : Nat) : LoopsOk laws_szRuleS.E k laws_szRuleS.hd (laws_szRuleS.lps k) (loopsOf (Go.Proofs.Tryz.f45.body.getD .skip)) := trivial
theorem laws_szRuleS.den (k : Nat) (x : Sig.In laws_szRuleS.sg.ps) : denFn laws_szRuleS.E k Go.Proofs.Tryz.f45 laws_szRuleS.sg laws_szRuleS.hd (runL k laws_szRuleS.hd (laws_szRuleS.lps k)) x = laws_szRuleS.F k x := by kernel_rfl
theorem laws_szRuleS.ok (k : Nat) : Contract Tryz.prog 45 laws_szRuleS.sg (laws_szRuleS.F k) := ok_of (E := laws_szRuleS.E) (tysOk _ _) (eqsOk _) trivial Tryz.func45 rfl (by kernel_rfl) (laws_szRuleS.loops k) (laws_szRuleS.den k)
def laws_szSettings.sg : Sig := ⟨[.b kSettings, .b (.int .i64)], [((.int .i64), .rd)]⟩
def laws_szSettings.E : Env := ⟨tys, bys, [(45, ⟨laws_szRuleS.sg, laws_szRuleS.F⟩)], eqs⟩
def laws_szSettings.F (k : Nat) (x : (((Int × (Int × (Int × Unit))) × (Int × ((List ((Int × (Int × Unit)) × (Int × (Int × (Int × (Bool × (Int × (Int × Unit)))))))) × ((List ((Int × (Int × Unit)) × (Int × (Int × (Int × (Bool × (Int × (Int × Unit)))))))) × Unit)))) × (Int × Unit))) : Option ((Int × Unit) × Unit) :=
  (laws_szRuleS.F k (x.1.2.2.1, x.2)).bind fun y0 =>
  bif (decide ((y0.1.1 < (0 : Int)))) then
  (some (((-(1 : Int)), ()), ()))
  else (laws_szRuleS.F k (x.1.2.2.2.1, y0.1)).bind fun y1 =>
    bif (decide ((y1.1.1 < (0 : Int)))) then
    (some (((-(1 : Int)), ()), ()))
    else some y1
def laws_szSettings.hd : Hints := ⟨[], [], [4], [0, 1, 2], []⟩
def laws_szSettings.lps (k : Nat) : List (Nat × Lp laws_szSettings.sg.Out) := []
theorem laws_szSettings.loops (k : Nat) : LoopsOk laws_szSettings.E k laws_szSettings.hd (laws_szSettings.lps k) (loopsOf (Go.Proofs.Tryz.f18.body.getD .skip)) := trivial
theorem laws_szSettings.den (k : Nat) (x : Sig.In laws_szSettings.sg.ps) : denFn laws_szSettings.E k Go.Proofs.Tryz.f18 laws_szSettings.sg laws_szSettings.hd (runL k laws_szSettings.hd (laws_szSettings.lps k)) x = laws_szSettings.F k x := by kernel_rfl
theorem laws_szSettings.ok (k : Nat) : Contract Tryz.prog 18 laws_szSettings.sg (laws_szSettings.F k) := ok_of (E := laws_szSettings.E) (tysOk _ _) (eqsOk _) ⟨laws_szRuleS.ok k, trivial⟩ Tryz.func18 rfl (by kernel_rfl) (laws_szSettings.loops k) (laws_szSettings.den k)
def laws_szByteS.sg : Sig := ⟨[.b (.sl (.int .u8)), .b (.int .i64)], [((.int .i64), .rd)]⟩
def laws_szByteS.E : Env := ⟨tys, bys, [], eqs⟩
def laws_szByteS.F (k : Nat) (x : ((List Int) × (Int × Unit))) : Option ((Int × Unit) × Unit) :=
  bif (decide (((IntKind.wrap .i64 (x.2.1 - (((List.length x.1) : Nat) : Int))) < (0 : Int)))) then
  (some (((-(1 : Int)), ()), ()))
  else some (((IntKind.wrap .i64 (x.2.1 - (((List.length x.1) : Nat) : Int))), ()), ())
def laws_szByteS.hd : Hints := ⟨[], [], [4], [0, 1], []⟩
def laws_szByteS.lps (k : Nat) : List (Nat × Lp laws_szByteS.sg.Out) := []
theorem laws_szByteS.loops (k : Nat) : LoopsOk laws_szByteS.E k laws_szByteS.hd (laws_szByteS.lps k) (loopsOf (Go.Proofs.Tryz.f87.body.getD .skip)) := trivial
theorem laws_szByteS.den (k : Nat) (x : Sig.In laws_szByteS.sg.ps) : denFn laws_szByteS.E k Go.Proofs.Tryz.f87 laws_szByteS.sg laws_szByteS.hd (runL k laws_szByteS.hd (laws_szByteS.lps k)) x = laws_szByteS.F k x := by kernel_rfl
theorem laws_szByteS.ok (k : Nat) : Contract Tryz.prog 87 laws_szByteS.sg (laws_szByteS.F k) := ok_of (E := laws_szByteS.E) (tysOk _ _) (eqsOk _) trivial Tryz.func87 rfl (by kernel_rfl) (laws_szByteS.loops k) (laws_szByteS.den k)
def laws_szEvent.sg : Sig := ⟨[.b kEvent, .b (.int .i64)], [((.int .i64), .rd)]⟩
def laws_szEvent.E : Env := ⟨tys, bys, [(87, ⟨laws_szByteS.sg, laws_szByteS.F⟩)], eqs⟩
def laws_szEvent.F (k : Nat) (x : ((Int × (Int × ((List Int) × Unit))) × (Int × Unit))) : Option ((Int × Unit) × Unit) :=
  (laws_szByteS.F k (x.1.2.2.1, x.2)).bind fun y0 =>
  bif (decide ((y0.1.1 < (0 : Int)))) then
  (some (((-(1 : Int)), ()), ()))
  else some y0
def laws_szEvent.hd : Hints := ⟨[], [], [4], [0, 1, 2], []⟩
def laws_szEvent.lps (k : Nat) : List (Nat × Lp laws_szEvent.sg.Out) := []
theorem laws_szEvent.loops (k : Nat) : LoopsOk laws_szEvent.E k laws_szEvent.hd (laws_szEvent.lps k) (loopsOf (Go.Proofs.Tryz.f88.body.getD .skip)) := trivial
theorem laws_szEvent.den (k : Nat) (x : Sig.In laws_szEvent.sg.ps) : denFn laws_szEvent.E k Go.Proofs.Tryz.f88 laws_szEvent.sg laws_szEvent.hd (runL k laws_szEvent.hd (laws_szEvent.lps k)) x = laws_szEvent.F k x := by kernel_rfl
theorem laws_szEvent.ok (k : Nat) : Contract Tryz.prog 88 laws_szEvent.sg (laws_szEvent.F k) := ok_of (E := laws_szEvent.E) (tysOk _ _) (eqsOk _) ⟨laws_szByteS.ok k, trivial⟩ Tryz.func88 rfl (by kernel_rfl) (laws_szEvent.loops k) (laws_szEvent.den k)
def laws_szEntry.sg : Sig := ⟨[.b kEntry, .b (.int .i64)], [((.int .i64), .rd)]⟩
def laws_szEntry.E : Env := ⟨tys, bys, [(88, ⟨laws_szEvent.sg, laws_szEvent.F⟩)], eqs⟩
def laws_szEntry.F (k : Nat) (x : ((Int × ((Int × (Int × ((List Int) × Unit))) × Unit)) × (Int × Unit))) : Option ((Int × Unit) × Unit) :=
  (laws_szEvent.F k (x.1.2.1, x.2)).bind fun y0 =>
  bif (decide ((y0.1.1 < (0 : Int)))) then
  (some (((-(1 : Int)), ()), ()))
  else some y0
def laws_szEntry.hd : Hints := ⟨[], [], [4], [0, 1, 2], []⟩
def laws_szEntry.lps (k : Nat) : List (Nat × Lp laws_szEntry.sg.Out) := []
theorem laws_szEntry.loops (k : Nat) : LoopsOk laws_szEntry.E k laws_szEntry.hd (laws_szEntry.lps k) (loopsOf (Go.Proofs.Tryz.f49.body.getD .skip)) := trivial
theorem laws_szEntry.den (k : Nat) (x : Sig.In laws_szEntry.sg.ps) : denFn laws_szEntry.E k Go.Proofs.Tryz.f49 laws_szEntry.sg laws_szEntry.hd (runL k laws_szEntry.hd (laws_szEntry.lps k)) x = laws_szEntry.F k x := by kernel_rfl
theorem laws_szEntry.ok (k : Nat) : Contract Tryz.prog 49 laws_szEntry.sg (laws_szEntry.F k) := ok_of (E := laws_szEntry.E) (tysOk _ _) (eqsOk _) ⟨laws_szEvent.ok k, trivial⟩ Tryz.func49 rfl (by kernel_rfl) (laws_szEntry.loops k) (laws_szEntry.den k)
def laws_szEntryS.sg : Sig := ⟨[.b (.sl kEntry), .b (.int .i64)], [((.int .i64), .rd)]⟩
def laws_szEntryS.E : Env := ⟨tys, bys, [(49, ⟨laws_szEntry.sg, laws_szEntry.F⟩)], eqs⟩
def laws_szEntryS.l5 {ρ : Type} (k : Nat) (c0 : (Int × Unit) → Option ρ) (c1 : (Int × Unit) → Option ρ) : Nat → List (Int × ((Int × (Int × ((List Int) × Unit))) × Unit)) → Int → Int → Option ρ
  | 0 => fun _ _ _ => none
  | n + 1 => fun x0 x1 x2 => 
    bif (decide ((x2 < (((List.length x0) : Nat) : Int)))) then
    (bif (Go.Dn.inB x2 (((List.length x0) : Nat) : Int)) then
      (Go.Dn.share (List.getD x0 (Int.toNat x2) ((0 : Int), (((0 : Int), ((0 : Int), (([] : List Int), ()))), ()))) fun s0 =>
        (laws_szEntry.F k (s0, x1, ())).bind fun y1 =>
        bif (decide ((y1.1.1 < (0 : Int)))) then
        (c0 ((-(1 : Int)), ()))
        else laws_szEntryS.l5 k c0 c1 n x0 y1.1.1 (IntKind.wrap .i64 (x2 + (1 : Int))))
      else none)
    else c1 (x1, ())
def laws_szEntryS.F (k : Nat) (x : ((List (Int × ((Int × (Int × ((List Int) × Unit))) × Unit))) × (Int × Unit))) : Option ((Int × Unit) × Unit) :=
  bif (decide (((IntKind.wrap .i64 (x.2.1 - (((List.length x.1) : Nat) : Int))) < (0 : Int)))) then
  (some (((-(1 : Int)), ()), ()))
  else laws_szEntryS.l5 k (fun e2 =>
      some (e2, ())) (fun e3 =>
      some (e3, ())) k x.1 (IntKind.wrap .i64 (x.2.1 - (((List.length x.1) : Nat) : Int))) (0 : Int)
def laws_szEntryS.hd : Hints := ⟨[(5, ⟨[0, 1, 5], []⟩)], [(0, [1]), (1, [0, 1, 5])], [4], [0, 1, 5], []⟩
def laws_szEntryS.lps (k : Nat) : List (Nat × Lp laws_szEntryS.sg.Out) := [(5, ⟨[.l kEntry, .i, .i], fun x => (fun x0 x1 x2 => ⟨[(0, .v false [.fz kEntry x0]), (1, .v false [.int .i64 x1]), (5, .v false [.int .i64 x2])], [], []⟩) x.1 x.2.1 x.2.2.1, fun C n x => laws_szEntryS.l5 k (fun y => C .ret ((fun y0 => ⟨[(4, .v false [.int .i64 y0])], [], []⟩) y.1)) (fun y => C (.exit 0) ((fun y0 => ⟨[(1, .v false [.int .i64 y0])], [], []⟩) y.1)) n x.1 x.2.1 x.2.2.1⟩)]
theorem laws_szEntryS.loops (k : Nat) : LoopsOk laws_szEntryS.E k laws_szEntryS.hd (laws_szEntryS.lps k) (loopsOf (Go.Proofs.Tryz.f22.body.getD .skip)) := ⟨⟨fun _ _ => rfl, fun _ _ _ => by kernel_rfl, fun _ => ⟨rfl, rfl⟩⟩, trivial⟩
theorem laws_szEntryS.den (k : Nat) (x : Sig.In laws_szEntryS.sg.ps) : denFn laws_szEntryS.E k Go.Proofs.Tryz.f22 laws_szEntryS.sg laws_szEntryS.hd (runL k laws_szEntryS.hd (laws_szEntryS.lps k)) x = laws_szEntryS.F k x := by kernel_rfl
theorem laws_szEntryS.ok (k : Nat) : Contract Tryz.prog 22 laws_szEntryS.sg (laws_szEntryS.F k) := ok_of (E := laws_szEntryS.E) (tysOk _ _) (eqsOk _) ⟨laws_szEntry.ok k, trivial⟩ Tryz.func22 rfl (by kernel_rfl) (laws_szEntryS.loops k) (laws_szEntryS.den k)
def laws_szNode.sg : Sig := ⟨[.b kNode, .b (.int .i64)], [((.int .i64), .rd)]⟩
def laws_szNode.E : Env := ⟨tys, bys, [(22, ⟨laws_szEntryS.sg, laws_szEntryS.F⟩)], eqs⟩
def laws_szNode.F (k : Nat) (x : ((Int × (Bool × (Int × (Int × ((List (Int × ((Int × (Int × ((List Int) × Unit))) × Unit))) × (Int × (Int × (Int × (Int × Unit))))))))) × (Int × Unit))) : Option ((Int × Unit) × Unit) :=
  (laws_szEntryS.F k (x.1.2.2.2.2.1, x.2)).bind fun y0 =>
  bif (decide ((y0.1.1 < (0 : Int)))) then
  (some (((-(1 : Int)), ()), ()))
  else some y0
def laws_szNode.hd : Hints := ⟨[], [], [4], [0, 1, 2], []⟩
def laws_szNode.lps (k : Nat) : List (Nat × Lp laws_szNode.sg.Out) := []
theorem laws_szNode.loops (k : Nat) : LoopsOk laws_szNode.E k laws_szNode.hd (laws_szNode.lps k) (loopsOf (Go.Proofs.Tryz.f46.body.getD .skip)) := trivial
theorem laws_szNode.den (k : Nat) (x : Sig.In laws_szNode.sg.ps) : denFn laws_szNode.E k Go.Proofs.Tryz.f46 laws_szNode.sg laws_szNode.hd (runL k laws_szNode.hd (laws_szNode.lps k)) x = laws_szNode.F k x := by kernel_rfl
theorem laws_szNode.ok (k : Nat) : Contract Tryz.prog 46 laws_szNode.sg (laws_szNode.F k) := ok_of (E := laws_szNode.E) (tysOk _ _) (eqsOk _) ⟨laws_szEntryS.ok k, trivial⟩ Tryz.func46 rfl (by kernel_rfl) (laws_szNode.loops k) (laws_szNode.den k)
def laws_szNodeS.sg : Sig := ⟨[.b (.sl kNode), .b (.int .i64)], [((.int .i64), .rd)]⟩
def laws_szNodeS.E : Env := ⟨tys, bys, [(46, ⟨laws_szNode.sg, laws_szNode.F⟩)], eqs⟩
def laws_szNodeS.l5 {ρ : Type} (k : Nat) (c0 : (Int × Unit) → Option ρ) (c1 : (Int × Unit) → Option ρ) : Nat → List (Int × (Bool × (Int × (Int × ((List (Int × ((Int × (Int × ((List Int) × Unit))) × Unit))) × (Int × (Int × (Int × (Int × Unit))))))))) → Int → Int → Option ρ
  | 0 => fun _ _ _ => none
  | n + 1 => fun x0 x1 x2 => 
    bif (decide ((x2 < (((List.length x0) : Nat) : Int)))) then
    (bif (Go.Dn.inB x2 (((List.length x0) : Nat) : Int)) then
      (Go.Dn.share (List.getD x0 (Int.toNat x2) ((0 : Int), (false, ((0 : Int), ((0 : Int), (([] : List (Int × ((Int × (Int × ((List Int) × Unit))) × Unit))), ((0 : Int), ((0 : Int), ((0 : Int), ((0 : Int), ())))))))))) fun s0 =>
        (laws_szNode.F k (s0, x1, ())).bind fun y1 =>
        bif (decide ((y1.1.1 < (0 : Int)))) then
        (c0 ((-(1 : Int)), ()))
        else laws_szNodeS.l5 k c0 c1 n x0 y1.1.1 (IntKind.wrap .i64 (x2 + (1 : Int))))
      else none)
    else c1 (x1, ())
def laws_szNodeS.F (k : Nat) (x : ((List (Int × (Bool × (Int × (Int × ((List (Int × ((Int × (Int × ((List Int) × Unit))) × Unit))) × (Int × (Int × (Int × (Int × Unit)))))))))) × (Int × Unit))) : Option ((Int × Unit) × Unit) :=
  bif (decide (((IntKind.wrap .i64 (x.2.1 - (((List.length x.1) : Nat) : Int))) < (0 : Int)))) then
  (some (((-(1 : Int)), ()), ()))
  else laws_szNodeS.l5 k (fun e2 =>
      some (e2, ())) (fun e3 =>
      some (e3, ())) k x.1 (IntKind.wrap .i64 (x.2.1 - (((List.length x.1) : Nat) : Int))) (0 : Int)
def laws_szNodeS.hd : Hints := ⟨[(5, ⟨[0, 1, 5], []⟩)], [(0, [1]), (1, [0, 1, 5])], [4], [0, 1, 5], []⟩
def laws_szNodeS.lps (k : Nat) : List (Nat × Lp laws_szNodeS.sg.Out) := [(5, ⟨[.l kNode, .i, .i], fun x => (fun x0 x1 x2 => ⟨[(0, .v false [.fz kNode x0]), (1, .v false [.int .i64 x1]), (5, .v false [.int .i64 x2])], [], []⟩) x.1 x.2.1 x.2.2.1, fun C n x => laws_szNodeS.l5 k (fun y => C .ret ((fun y0 => ⟨[(4, .v false [.int .i64 y0])], [], []⟩) y.1)) (fun y => C (.exit 0) ((fun y0 => ⟨[(1, .v false [.int .i64 y0])], [], []⟩) y.1)) n x.1 x.2.1 x.2.2.1⟩)]
theorem laws_szNodeS.loops (k : Nat) : LoopsOk laws_szNodeS.E k laws_szNodeS.hd (laws_szNodeS.lps k) (loopsOf (Go.Proofs.Tryz.f19.body.getD .skip)) := ⟨⟨fun _ _ => rfl, fun _ _ _ => by kernel_rfl, fun _ => ⟨rfl, rfl⟩⟩, trivial⟩
theorem laws_szNodeS.den (k : Nat) (x : Sig.In laws_szNodeS.sg.ps) : denFn laws_szNodeS.E k Go.Proofs.Tryz.f19 laws_szNodeS.sg laws_szNodeS.hd (runL k laws_szNodeS.hd (laws_szNodeS.lps k)) x = laws_szNodeS.F k x := by kernel_rfl
theorem laws_szNodeS.ok (k : Nat) : Contract Tryz.prog 19 laws_szNodeS.sg (laws_szNodeS.F k) := ok_of (E := laws_szNodeS.E) (tysOk _ _) (eqsOk _) ⟨laws_szNode.ok k, trivial⟩ Tryz.func19 rfl (by kernel_rfl) (laws_szNodeS.loops k) (laws_szNodeS.den k)
def laws_szWire.sg : Sig := ⟨[.b kWire, .b (.int .i64)], [((.int .i64), .rd)]⟩
def laws_szWire.E : Env := ⟨tys, bys, [(87, ⟨laws_szByteS.sg, laws_szByteS.F⟩)], eqs⟩
def laws_szWire.F (k : Nat) (x : ((Int × ((List Int) × (Int × ((List Int) × Unit)))) × (Int × Unit))) : Option ((Int × Unit) × Unit) :=
  (laws_szByteS.F k (x.1.2.1, x.2)).bind fun y0 =>
  bif (decide ((y0.1.1 < (0 : Int)))) then
  (some (((-(1 : Int)), ()), ()))
  else (laws_szByteS.F k (x.1.2.2.2.1, y0.1)).bind fun y1 =>
    bif (decide ((y1.1.1 < (0 : Int)))) then
    (some (((-(1 : Int)), ()), ()))
    else some y1
def laws_szWire.hd : Hints := ⟨[], [], [4], [0, 1, 2], []⟩
def laws_szWire.lps (k : Nat) : List (Nat × Lp laws_szWire.sg.Out) := []
theorem laws_szWire.loops (k : Nat) : LoopsOk laws_szWire.E k laws_szWire.hd (laws_szWire.lps k) (loopsOf (Go.Proofs.Tryz.f47.body.getD .skip)) := trivial
theorem laws_szWire.den (k : Nat) (x : Sig.In laws_szWire.sg.ps) : denFn laws_szWire.E k Go.Proofs.Tryz.f47 laws_szWire.sg laws_szWire.hd (runL k laws_szWire.hd (laws_szWire.lps k)) x = laws_szWire.F k x := by kernel_rfl
theorem laws_szWire.ok (k : Nat) : Contract Tryz.prog 47 laws_szWire.sg (laws_szWire.F k) := ok_of (E := laws_szWire.E) (tysOk _ _) (eqsOk _) ⟨laws_szByteS.ok k, trivial⟩ Tryz.func47 rfl (by kernel_rfl) (laws_szWire.loops k) (laws_szWire.den k)
def laws_szWireS.sg : Sig := ⟨[.b (.sl kWire), .b (.int .i64)], [((.int .i64), .rd)]⟩
def laws_szWireS.E : Env := ⟨tys, bys, [(47, ⟨laws_szWire.sg, laws_szWire.F⟩)], eqs⟩
def laws_szWireS.l5 {ρ : Type} (k : Nat) (c0 : (Int × Unit) → Option ρ) (c1 : (Int × Unit) → Option ρ) : Nat → List (Int × ((List Int) × (Int × ((List Int) × Unit)))) → Int → Int → Option ρ
  | 0 => fun _ _ _ => none
  | n + 1 => fun x0 x1 x2 => 
    bif (decide ((x2 < (((List.length x0) : Nat) : Int)))) then
    (bif (Go.Dn.inB x2 (((List.length x0) : Nat) : Int)) then
      (Go.Dn.share (List.getD x0 (Int.toNat x2) ((0 : Int), (([] : List Int), ((0 : Int), (([] : List Int), ()))))) fun s0 =>
        (laws_szWire.F k (s0, x1, ())).bind fun y1 =>
        bif (decide ((y1.1.1 < (0 : Int)))) then
        (c0 ((-(1 : Int)), ()))
        else laws_szWireS.l5 k c0 c1 n x0 y1.1.1 (IntKind.wrap .i64 (x2 + (1 : Int))))
      else none)
    else c1 (x1, ())
def laws_szWireS.F (k : Nat) (x : ((List (Int × ((List Int) × (Int × ((List Int) × Unit))))) × (Int × Unit))) : Option ((Int × Unit) × Unit) :=
  bif (decide (((IntKind.wrap .i64 (x.2.1 - (((List.length x.1) : Nat) : Int))) < (0 : Int)))) then
  (some (((-(1 : Int)), ()), ()))
  else laws_szWireS.l5 k (fun e2 =>
      some (e2, ())) (fun e3 =>
      some (e3, ())) k x.1 (IntKind.wrap .i64 (x.2.1 - (((List.length x.1) : Nat) : Int))) (0 : Int)
def laws_szWireS.hd : Hints := ⟨[(5, ⟨[0, 1, 5], []⟩)], [(0, [1]), (1, [0, 1, 5])], [4], [0, 1, 5], []⟩
def laws_szWireS.lps (k : Nat) : List (Nat × Lp laws_szWireS.sg.Out) := [(5, ⟨[.l kWire, .i, .i], fun x => (fun x0 x1 x2 => ⟨[(0, .v false [.fz kWire x0]), (1, .v false [.int .i64 x1]), (5, .v false [.int .i64 x2])], [], []⟩) x.1 x.2.1 x.2.2.1, fun C n x => laws_szWireS.l5 k (fun y => C .ret ((fun y0 => ⟨[(4, .v false [.int .i64 y0])], [], []⟩) y.1)) (fun y => C (.exit 0) ((fun y0 => ⟨[(1, .v false [.int .i64 y0])], [], []⟩) y.1)) n x.1 x.2.1 x.2.2.1⟩)]
theorem laws_szWireS.loops (k : Nat) : LoopsOk laws_szWireS.E k laws_szWireS.hd (laws_szWireS.lps k) (loopsOf (Go.Proofs.Tryz.f20.body.getD .skip)) := ⟨⟨fun _ _ => rfl, fun _ _ _ => by kernel_rfl, fun _ => ⟨rfl, rfl⟩⟩, trivial⟩
theorem laws_szWireS.den (k : Nat) (x : Sig.In laws_szWireS.sg.ps) : denFn laws_szWireS.E k Go.Proofs.Tryz.f20 laws_szWireS.sg laws_szWireS.hd (runL k laws_szWireS.hd (laws_szWireS.lps k)) x = laws_szWireS.F k x := by kernel_rfl
theorem laws_szWireS.ok (k : Nat) : Contract Tryz.prog 20 laws_szWireS.sg (laws_szWireS.F k) := ok_of (E := laws_szWireS.E) (tysOk _ _) (eqsOk _) ⟨laws_szWire.ok k, trivial⟩ Tryz.func20 rfl (by kernel_rfl) (laws_szWireS.loops k) (laws_szWireS.den k)
def laws_szMail.sg : Sig := ⟨[.b kMail, .b (.int .i64)], [((.int .i64), .rd)]⟩
def laws_szMail.E : Env := ⟨tys, bys, [(49, ⟨laws_szEntry.sg, laws_szEntry.F⟩)], eqs⟩
def laws_szMail.F (k : Nat) (x : ((Int × (Int × (Int × (Int × (Int × (Bool × ((Int × ((Int × (Int × ((List Int) × Unit))) × Unit)) × Unit))))))) × (Int × Unit))) : Option ((Int × Unit) × Unit) :=
  (laws_szEntry.F k (x.1.2.2.2.2.2.2.1, x.2)).bind fun y0 =>
  bif (decide ((y0.1.1 < (0 : Int)))) then
  (some (((-(1 : Int)), ()), ()))
  else some y0
def laws_szMail.hd : Hints := ⟨[], [], [4], [0, 1, 2], []⟩
def laws_szMail.lps (k : Nat) : List (Nat × Lp laws_szMail.sg.Out) := []
theorem laws_szMail.loops (k : Nat) : LoopsOk laws_szMail.E k laws_szMail.hd (laws_szMail.lps k) (loopsOf (Go.Proofs.Tryz.f48.body.getD .skip)) := trivial
theorem laws_szMail.den (k : Nat) (x : Sig.In laws_szMail.sg.ps) : denFn laws_szMail.E k Go.Proofs.Tryz.f48 laws_szMail.sg laws_szMail.hd (runL k laws_szMail.hd (laws_szMail.lps k)) x = laws_szMail.F k x := by kernel_rfl
theorem laws_szMail.ok (k : Nat) : Contract Tryz.prog 48 laws_szMail.sg (laws_szMail.F k) := ok_of (E := laws_szMail.E) (tysOk _ _) (eqsOk _) ⟨laws_szEntry.ok k, trivial⟩ Tryz.func48 rfl (by kernel_rfl) (laws_szMail.loops k) (laws_szMail.den k)
def laws_szMailS.sg : Sig := ⟨[.b (.sl kMail), .b (.int .i64)], [((.int .i64), .rd)]⟩
def laws_szMailS.E : Env := ⟨tys, bys, [(48, ⟨laws_szMail.sg, laws_szMail.F⟩)], eqs⟩
def laws_szMailS.l5 {ρ : Type} (k : Nat) (c0 : (Int × Unit) → Option ρ) (c1 : (Int × Unit) → Option ρ) : Nat → List (Int × (Int × (Int × (Int × (Int × (Bool × ((Int × ((Int × (Int × ((List Int) × Unit))) × Unit)) × Unit))))))) → Int → Int → Option ρ
  | 0 => fun _ _ _ => none
  | n + 1 => fun x0 x1 x2 => 
    bif (decide ((x2 < (((List.length x0) : Nat) : Int)))) then
    (bif (Go.Dn.inB x2 (((List.length x0) : Nat) : Int)) then
      (Go.Dn.share (List.getD x0 (Int.toNat x2) ((0 : Int), ((0 : Int), ((0 : Int), ((0 : Int), ((0 : Int), (false, (((0 : Int), (((0 : Int), ((0 : Int), (([] : List Int), ()))), ())), ())))))))) fun s0 =>
        (laws_szMail.F k (s0, x1, ())).bind fun y1 =>
        bif (decide ((y1.1.1 < (0 : Int)))) then
        (c0 ((-(1 : Int)), ()))
        else laws_szMailS.l5 k c0 c1 n x0 y1.1.1 (IntKind.wrap .i64 (x2 + (1 : Int))))
      else none)
    else c1 (x1, ())
def laws_szMailS.F (k : Nat) (x : ((List (Int × (Int × (Int × (Int × (Int × (Bool × ((Int × ((Int × (Int × ((List Int) × Unit))) × Unit)) × Unit)))))))) × (Int × Unit))) : Option ((Int × Unit) × Unit) :=
  bif (decide (((IntKind.wrap .i64 (x.2.1 - (((List.length x.1) : Nat) : Int))) < (0 : Int)))) then
  (some (((-(1 : Int)), ()), ()))
  else laws_szMailS.l5 k (fun e2 =>
      some (e2, ())) (fun e3 =>
      some (e3, ())) k x.1 (IntKind.wrap .i64 (x.2.1 - (((List.length x.1) : Nat) : Int))) (0 : Int)
def laws_szMailS.hd : Hints := ⟨[(5, ⟨[0, 1, 5], []⟩)], [(0, [1]), (1, [0, 1, 5])], [4], [0, 1, 5], []⟩
def laws_szMailS.lps (k : Nat) : List (Nat × Lp laws_szMailS.sg.Out) := [(5, ⟨[.l kMail, .i, .i], fun x => (fun x0 x1 x2 => ⟨[(0, .v false [.fz kMail x0]), (1, .v false [.int .i64 x1]), (5, .v false [.int .i64 x2])], [], []⟩) x.1 x.2.1 x.2.2.1, fun C n x => laws_szMailS.l5 k (fun y => C .ret ((fun y0 => ⟨[(4, .v false [.int .i64 y0])], [], []⟩) y.1)) (fun y => C (.exit 0) ((fun y0 => ⟨[(1, .v false [.int .i64 y0])], [], []⟩) y.1)) n x.1 x.2.1 x.2.2.1⟩)]
theorem laws_szMailS.loops (k : Nat) : LoopsOk laws_szMailS.E k laws_szMailS.hd (laws_szMailS.lps k) (loopsOf (Go.Proofs.Tryz.f21.body.getD .skip)) := ⟨⟨fun _ _ => rfl, fun _ _ _ => by kernel_rfl, fun _ => ⟨rfl, rfl⟩⟩, trivial⟩
theorem laws_szMailS.den (k : Nat) (x : Sig.In laws_szMailS.sg.ps) : denFn laws_szMailS.E k Go.Proofs.Tryz.f21 laws_szMailS.sg laws_szMailS.hd (runL k laws_szMailS.hd (laws_szMailS.lps k)) x = laws_szMailS.F k x := by kernel_rfl
theorem laws_szMailS.ok (k : Nat) : Contract Tryz.prog 21 laws_szMailS.sg (laws_szMailS.F k) := ok_of (E := laws_szMailS.E) (tysOk _ _) (eqsOk _) ⟨laws_szMail.ok k, trivial⟩ Tryz.func21 rfl (by kernel_rfl) (laws_szMailS.loops k) (laws_szMailS.den k)
def laws_szPair.sg : Sig := ⟨[.b kPair, .b (.int .i64)], [((.int .i64), .rd)]⟩
def laws_szPair.E : Env := ⟨tys, bys, [(18, ⟨laws_szSettings.sg, laws_szSettings.F⟩), (19, ⟨laws_szNodeS.sg, laws_szNodeS.F⟩), (20, ⟨laws_szWireS.sg, laws_szWireS.F⟩), (21, ⟨laws_szMailS.sg, laws_szMailS.F⟩), (22, ⟨laws_szEntryS.sg, laws_szEntryS.F⟩)], eqs⟩
def laws_szPair.F (k : Nat) (x : ((((Int × (Int × (Int × Unit))) × (Int × ((List ((Int × (Int × Unit)) × (Int × (Int × (Int × (Bool × (Int × (Int × Unit)))))))) × ((List ((Int × (Int × Unit)) × (Int × (Int × (Int × (Bool × (Int × (Int × Unit)))))))) × Unit)))) × ((List (Int × (Bool × (Int × (Int × ((List (Int × ((Int × (Int × ((List Int) × Unit))) × Unit))) × (Int × (Int × (Int × (Int × Unit)))))))))) × ((List (Int × ((List Int) × (Int × ((List Int) × Unit))))) × ((List (Int × (Int × (Int × (Int × (Int × (Bool × ((Int × ((Int × (Int × ((List Int) × Unit))) × Unit)) × Unit)))))))) × ((List (Int × ((Int × (Int × ((List Int) × Unit))) × Unit))) × Unit))))) × (Int × Unit))) : Option ((Int × Unit) × Unit) :=
  (laws_szSettings.F k (x.1.1, x.2)).bind fun y0 =>
  bif (decide ((y0.1.1 < (0 : Int)))) then
  (some (((-(1 : Int)), ()), ()))
  else (laws_szNodeS.F k (x.1.2.1, y0.1)).bind fun y1 =>
    bif (decide ((y1.1.1 < (0 : Int)))) then
    (some (((-(1 : Int)), ()), ()))
    else (laws_szWireS.F k (x.1.2.2.1, y1.1)).bind fun y2 =>
      bif (decide ((y2.1.1 < (0 : Int)))) then
      (some (((-(1 : Int)), ()), ()))
      else (laws_szMailS.F k (x.1.2.2.2.1, y2.1)).bind fun y3 =>
        bif (decide ((y3.1.1 < (0 : Int)))) then
        (some (((-(1 : Int)), ()), ()))
        else (laws_szEntryS.F k (x.1.2.2.2.2.1, y3.1)).bind fun y4 =>
          bif (decide ((y4.1.1 < (0 : Int)))) then
          (some (((-(1 : Int)), ()), ()))
          else some y4
def laws_szPair.hd : Hints := ⟨[], [], [4], [0, 1, 2], []⟩
def laws_szPair.lps (k : Nat) : List (Nat × Lp laws_szPair.sg.Out) := []
theorem laws_szPair.loops (k : Nat) : LoopsOk laws_szPair.E k laws_szPair.hd (laws_szPair.lps k) (loopsOf (Go.Proofs.Tryz.f7.body.getD .skip)) := trivial
theorem laws_szPair.den (k : Nat) (x : Sig.In laws_szPair.sg.ps) : denFn laws_szPair.E k Go.Proofs.Tryz.f7 laws_szPair.sg laws_szPair.hd (runL k laws_szPair.hd (laws_szPair.lps k)) x = laws_szPair.F k x := by kernel_rfl
theorem laws_szPair.ok (k : Nat) : Contract Tryz.prog 7 laws_szPair.sg (laws_szPair.F k) := ok_of (E := laws_szPair.E) (tysOk _ _) (eqsOk _) ⟨laws_szSettings.ok k, laws_szNodeS.ok k, laws_szWireS.ok k, laws_szMailS.ok k, laws_szEntryS.ok k, trivial⟩ Tryz.func7 rfl (by kernel_rfl) (laws_szPair.loops k) (laws_szPair.den k)
def spec_l1In.sg : Sig := ⟨[.b (.int .i64), .b (.int .i64), .b (.int .i64)], [(.bool, .rd)]⟩
def spec_l1In.E : Env := ⟨tys, bys, [], eqs⟩
def spec_l1In.F (k : Nat) (x : (Int × (Int × (Int × Unit)))) : Option ((Bool × Unit) × Unit) :=
  bif (decide ((x.1 ≥ x.2.1))) then
  (some (((decide ((x.1 ≤ x.2.2.1))), ()), ()))
  else some ((false, ()), ())
def spec_l1In.hd : Hints := ⟨[], [], [6], [0, 1, 2], []⟩
def spec_l1In.lps (k : Nat) : List (Nat × Lp spec_l1In.sg.Out) := []
theorem spec_l1In.loops (k : Nat) : LoopsOk spec_l1In.E k spec_l1In.hd (spec_l1In.lps k) (loopsOf (Go.Proofs.Tryz.f93.body.getD .skip)) := trivial
theorem spec_l1In.den (k : Nat) (x : Sig.In spec_l1In.sg.ps) : denFn spec_l1In.E k Go.Proofs.Tryz.f93 spec_l1In.sg spec_l1In.hd (runL k spec_l1In.hd (spec_l1In.lps k)) x = spec_l1In.F k x := by kernel_rfl
theorem spec_l1In.ok (k : Nat) : Contract Tryz.prog 93 spec_l1In.sg (spec_l1In.F k) := ok_of (E := spec_l1In.E) (tysOk _ _) (eqsOk _) trivial Tryz.func93 rfl (by kernel_rfl) (spec_l1In.loops k) (spec_l1In.den k)
def spec_l4Hold.sg : Sig := ⟨[.b (.int .i64)], [(.bool, .rd)]⟩
def spec_l4Hold.E : Env := ⟨tys, bys, [(93, ⟨spec_l1In.sg, spec_l1In.F⟩)], eqs⟩
def spec_l4Hold.F (k : Nat) (x : (Int × Unit)) : Option ((Bool × Unit) × Unit) :=
  bif (x.1 == (0 : Int)) then
  (some ((true, ()), ()))
  else (spec_l1In.F k (x.1, (3 : Int), (200 : Int), ())).bind fun y0 =>
    some y0
def spec_l4Hold.hd : Hints := ⟨[], [], [2], [0], []⟩
def spec_l4Hold.lps (k : Nat) : List (Nat × Lp spec_l4Hold.sg.Out) := []
theorem spec_l4Hold.loops (k : Nat) : LoopsOk spec_l4Hold.E k spec_l4Hold.hd (spec_l4Hold.lps k) (loopsOf (Go.Proofs.Tryz.f117.body.getD .skip)) := trivial
theorem spec_l4Hold.den (k : Nat) (x : Sig.In spec_l4Hold.sg.ps) : denFn spec_l4Hold.E k Go.Proofs.Tryz.f117 spec_l4Hold.sg spec_l4Hold.hd (runL k spec_l4Hold.hd (spec_l4Hold.lps k)) x = spec_l4Hold.F k x := by kernel_rfl
theorem spec_l4Hold.ok (k : Nat) : Contract Tryz.prog 117 spec_l4Hold.sg (spec_l4Hold.F k) := ok_of (E := spec_l4Hold.E) (tysOk _ _) (eqsOk _) ⟨spec_l1In.ok k, trivial⟩ Tryz.func117 rfl (by kernel_rfl) (spec_l4Hold.loops k) (spec_l4Hold.den k)
def spec_ConfigFault.sg : Sig := ⟨[.b kConfig], [((.int .i64), .rd)]⟩
def spec_ConfigFault.E : Env := ⟨tys, bys, [(93, ⟨spec_l1In.sg, spec_l1In.F⟩), (117, ⟨spec_l4Hold.sg, spec_l4Hold.F⟩)], eqs⟩
def spec_ConfigFault.F (k : Nat) (x : ((Int × (Int × (Int × Unit))) × Unit)) : Option ((Int × Unit) × Unit) :=
  (spec_l1In.F k (x.1.1, (1 : Int), (65535 : Int), ())).bind fun y0 =>
  bif (!y0.1.1) then
  (some (((3 : Int), ()), ()))
  else (spec_l1In.F k (x.1.2.1, (1 : Int), (65535 : Int), ())).bind fun y1 =>
    bif (!y1.1.1) then
    (some (((3 : Int), ()), ()))
    else (spec_l4Hold.F k x.1.2.2).bind fun y2 =>
      bif (!y2.1.1) then
      (some (((3 : Int), ()), ()))
      else some (((0 : Int), ()), ())
def spec_ConfigFault.hd : Hints := ⟨[], [], [2], [0, 1], []⟩
def spec_ConfigFault.lps (k : Nat) : List (Nat × Lp spec_ConfigFault.sg.Out) := []
theorem spec_ConfigFault.loops (k : Nat) : LoopsOk spec_ConfigFault.E k spec_ConfigFault.hd (spec_ConfigFault.lps k) (loopsOf (Go.Proofs.Tryz.f89.body.getD .skip)) := trivial
theorem spec_ConfigFault.den (k : Nat) (x : Sig.In spec_ConfigFault.sg.ps) : denFn spec_ConfigFault.E k Go.Proofs.Tryz.f89 spec_ConfigFault.sg spec_ConfigFault.hd (runL k spec_ConfigFault.hd (spec_ConfigFault.lps k)) x = spec_ConfigFault.F k x := by kernel_rfl
theorem spec_ConfigFault.ok (k : Nat) : Contract Tryz.prog 89 spec_ConfigFault.sg (spec_ConfigFault.F k) := ok_of (E := spec_ConfigFault.E) (tysOk _ _) (eqsOk _) ⟨spec_l1In.ok k, spec_l4Hold.ok k, trivial⟩ Tryz.func89 rfl (by kernel_rfl) (spec_ConfigFault.loops k) (spec_ConfigFault.den k)
def spec_l2Addr.sg : Sig := ⟨[.b (.int .i64)], [(.bool, .rd)]⟩
def spec_l2Addr.E : Env := ⟨tys, bys, [(93, ⟨spec_l1In.sg, spec_l1In.F⟩)], eqs⟩
def spec_l2Addr.F (k : Nat) (x : (Int × Unit)) : Option ((Bool × Unit) × Unit) :=
  (spec_l1In.F k (x.1, (0 : Int), (65535 : Int), ())).bind fun y0 =>
  some y0
def spec_l2Addr.hd : Hints := ⟨[], [], [2], [0], []⟩
def spec_l2Addr.lps (k : Nat) : List (Nat × Lp spec_l2Addr.sg.Out) := []
theorem spec_l2Addr.loops (k : Nat) : LoopsOk spec_l2Addr.E k spec_l2Addr.hd (spec_l2Addr.lps k) (loopsOf (Go.Proofs.Tryz.f90.body.getD .skip)) := trivial
theorem spec_l2Addr.den (k : Nat) (x : Sig.In spec_l2Addr.sg.ps) : denFn spec_l2Addr.E k Go.Proofs.Tryz.f90 spec_l2Addr.sg spec_l2Addr.hd (runL k spec_l2Addr.hd (spec_l2Addr.lps k)) x = spec_l2Addr.F k x := by kernel_rfl
theorem spec_l2Addr.ok (k : Nat) : Contract Tryz.prog 90 spec_l2Addr.sg (spec_l2Addr.F k) := ok_of (E := spec_l2Addr.E) (tysOk _ _) (eqsOk _) ⟨spec_l1In.ok k, trivial⟩ Tryz.func90 rfl (by kernel_rfl) (spec_l2Addr.loops k) (spec_l2Addr.den k)
def spec_l2Rest.sg : Sig := ⟨[.b (.int .i64)], [((.int .i64), .rd)]⟩
def spec_l2Rest.E : Env := ⟨tys, bys, [], eqs⟩
def spec_l2Rest.F (k : Nat) (x : (Int × Unit)) : Option ((Int × Unit) × Unit) :=
  bif (decide (((IntKind.wrap .u64 (IntKind.wrap .i64 ((16 : Int) - x.1))) < (0 : Int)))) then
  (none)
  else some (((IntKind.wrap .i64 ((Go.Dn.shlV .i64 (1 : Int) (IntKind.wrap .u64 (IntKind.wrap .i64 ((16 : Int) - x.1)))) - (1 : Int))), ()), ())
def spec_l2Rest.hd : Hints := ⟨[], [], [2], [0], []⟩
def spec_l2Rest.lps (k : Nat) : List (Nat × Lp spec_l2Rest.sg.Out) := []
theorem spec_l2Rest.loops (k : Nat) : LoopsOk spec_l2Rest.E k spec_l2Rest.hd (spec_l2Rest.lps k) (loopsOf (Go.Proofs.Tryz.f131.body.getD .skip)) := trivial
theorem spec_l2Rest.den (k : Nat) (x : Sig.In spec_l2Rest.sg.ps) : denFn spec_l2Rest.E k Go.Proofs.Tryz.f131 spec_l2Rest.sg spec_l2Rest.hd (runL k spec_l2Rest.hd (spec_l2Rest.lps k)) x = spec_l2Rest.F k x := by kernel_rfl
theorem spec_l2Rest.ok (k : Nat) : Contract Tryz.prog 131 spec_l2Rest.sg (spec_l2Rest.F k) := ok_of (E := spec_l2Rest.E) (tysOk _ _) (eqsOk _) trivial Tryz.func131 rfl (by kernel_rfl) (spec_l2Rest.loops k) (spec_l2Rest.den k)
def spec_PrefixFault.sg : Sig := ⟨[.b kPrefix], [((.int .i64), .rd)]⟩
def spec_PrefixFault.E : Env := ⟨tys, bys, [(90, ⟨spec_l2Addr.sg, spec_l2Addr.F⟩), (93, ⟨spec_l1In.sg, spec_l1In.F⟩), (131, ⟨spec_l2Rest.sg, spec_l2Rest.F⟩)], eqs⟩
def spec_PrefixFault.F (k : Nat) (x : ((Int × (Int × Unit)) × Unit)) : Option ((Int × Unit) × Unit) :=
  (spec_l2Addr.F k (x.1.1, ())).bind fun y0 =>
  bif (!y0.1.1) then
  (some (((3 : Int), ()), ()))
  else (spec_l1In.F k (x.1.2.1, (0 : Int), (16 : Int), ())).bind fun y1 =>
    bif (!y1.1.1) then
    (some (((3 : Int), ()), ()))
    else (spec_l2Rest.F k x.1.2).bind fun y2 =>
      bif ((Go.Dn.andV .i64 x.1.1 y2.1.1) != (0 : Int)) then
      (some (((1 : Int), ()), ()))
      else some (((0 : Int), ()), ())
def spec_PrefixFault.hd : Hints := ⟨[], [], [2], [0, 1], [(3, [0, 1, 0, 4, 12, 31, 63])]⟩
def spec_PrefixFault.lps (k : Nat) : List (Nat × Lp spec_PrefixFault.sg.Out) := []
theorem spec_PrefixFault.loops (k : Nat) : LoopsOk spec_PrefixFault.E k spec_PrefixFault.hd (spec_PrefixFault.lps k) (loopsOf (Go.Proofs.Tryz.f126.body.getD .skip)) := trivial
theorem spec_PrefixFault.den (k : Nat) (x : Sig.In spec_PrefixFault.sg.ps) : denFn spec_PrefixFault.E k Go.Proofs.Tryz.f126 spec_PrefixFault.sg spec_PrefixFault.hd (runL k spec_PrefixFault.hd (spec_PrefixFault.lps k)) x = spec_PrefixFault.F k x := by kernel_rfl
theorem spec_PrefixFault.ok (k : Nat) : Contract Tryz.prog 126 spec_PrefixFault.sg (spec_PrefixFault.F k) := ok_of (E := spec_PrefixFault.E) (tysOk _ _) (eqsOk _) ⟨spec_l2Addr.ok k, spec_l1In.ok k, spec_l2Rest.ok k, trivial⟩ Tryz.func126 rfl (by kernel_rfl) (spec_PrefixFault.loops k) (spec_PrefixFault.den k)
def spec_l3Word.sg : Sig := ⟨[.b (.int .i64)], [(.bool, .rd)]⟩
def spec_l3Word.E : Env := ⟨tys, bys, [(93, ⟨spec_l1In.sg, spec_l1In.F⟩)], eqs⟩
def spec_l3Word.F (k : Nat) (x : (Int × Unit)) : Option ((Bool × Unit) × Unit) :=
  (spec_l1In.F k (x.1, (0 : Int), (65535 : Int), ())).bind fun y0 =>
  some y0
def spec_l3Word.hd : Hints := ⟨[], [], [2], [0], []⟩
def spec_l3Word.lps (k : Nat) : List (Nat × Lp spec_l3Word.sg.Out) := []
theorem spec_l3Word.loops (k : Nat) : LoopsOk spec_l3Word.E k spec_l3Word.hd (spec_l3Word.lps k) (loopsOf (Go.Proofs.Tryz.f127.body.getD .skip)) := trivial
theorem spec_l3Word.den (k : Nat) (x : Sig.In spec_l3Word.sg.ps) : denFn spec_l3Word.E k Go.Proofs.Tryz.f127 spec_l3Word.sg spec_l3Word.hd (runL k spec_l3Word.hd (spec_l3Word.lps k)) x = spec_l3Word.F k x := by kernel_rfl
theorem spec_l3Word.ok (k : Nat) : Contract Tryz.prog 127 spec_l3Word.sg (spec_l3Word.F k) := ok_of (E := spec_l3Word.E) (tysOk _ _) (eqsOk _) ⟨spec_l1In.ok k, trivial⟩ Tryz.func127 rfl (by kernel_rfl) (spec_l3Word.loops k) (spec_l3Word.den k)
def spec_RuleFault.sg : Sig := ⟨[.b kRule], [((.int .i64), .rd)]⟩
def spec_RuleFault.E : Env := ⟨tys, bys, [(93, ⟨spec_l1In.sg, spec_l1In.F⟩), (126, ⟨spec_PrefixFault.sg, spec_PrefixFault.F⟩), (127, ⟨spec_l3Word.sg, spec_l3Word.F⟩)], eqs⟩
def spec_RuleFault.F (k : Nat) (x : (((Int × (Int × Unit)) × (Int × (Int × (Int × (Bool × (Int × (Int × Unit))))))) × Unit)) : Option ((Int × Unit) × Unit) :=
  (spec_PrefixFault.F k (x.1.1, ())).bind fun y0 =>
  bif (y0.1.1 != (0 : Int)) then
  (some y0)
  else (spec_l1In.F k (x.1.2.1, (0 : Int), (16 : Int), ())).bind fun y1 =>
    bif (!y1.1.1) then
    (some (((3 : Int), ()), ()))
    else (spec_l1In.F k (x.1.2.2.1, (0 : Int), (16 : Int), ())).bind fun y2 =>
      bif (!y2.1.1) then
      (some (((3 : Int), ()), ()))
      else (spec_l3Word.F k (x.1.2.2.2.1, ())).bind fun y3 =>
        bif (!y3.1.1) then
        (some (((3 : Int), ()), ()))
        else (spec_l1In.F k (x.1.2.2.2.2.2.1, (-(1 : Int)), (65535 : Int), ())).bind fun y4 =>
          bif (!y4.1.1) then
          (some (((3 : Int), ()), ()))
          else (spec_l1In.F k (x.1.2.2.2.2.2.2.1, (0 : Int), (3 : Int), ())).bind fun y5 =>
            bif (!y5.1.1) then
            (some (((3 : Int), ()), ()))
            else bif (decide ((x.1.2.1 > x.1.2.2.1))) then
              (some (((1 : Int), ()), ()))
              else bif x.1.2.2.2.2.1 then
                (bif (x.1.2.2.2.2.2.1 != (-(1 : Int))) then
                  (some (((1 : Int), ()), ()))
                  else bif (x.1.2.2.2.2.2.2.1 != (0 : Int)) then
                    (some (((1 : Int), ()), ()))
                    else some (((0 : Int), ()), ()))
                else some (((0 : Int), ()), ())
def spec_RuleFault.hd : Hints := ⟨[], [], [2], [0, 1, 3], []⟩
def spec_RuleFault.lps (k : Nat) : List (Nat × Lp spec_RuleFault.sg.Out) := []
theorem spec_RuleFault.loops (k : Nat) : LoopsOk spec_RuleFault.E k spec_RuleFault.hd (spec_RuleFault.lps k) (loopsOf (Go.Proofs.Tryz.f118.body.getD .skip)) := trivial
theorem spec_RuleFault.den (k : Nat) (x : Sig.In spec_RuleFault.sg.ps) : denFn spec_RuleFault.E k Go.Proofs.Tryz.f118 spec_RuleFault.sg spec_RuleFault.hd (runL k spec_RuleFault.hd (spec_RuleFault.lps k)) x = spec_RuleFault.F k x := by kernel_rfl
theorem spec_RuleFault.ok (k : Nat) : Contract Tryz.prog 118 spec_RuleFault.sg (spec_RuleFault.F k) := ok_of (E := spec_RuleFault.E) (tysOk _ _) (eqsOk _) ⟨spec_l1In.ok k, spec_PrefixFault.ok k, spec_l3Word.ok k, trivial⟩ Tryz.func118 rfl (by kernel_rfl) (spec_RuleFault.loops k) (spec_RuleFault.den k)
def spec_RulesFault.sg : Sig := ⟨[.b (.sl kRule)], [((.int .i64), .rd)]⟩
def spec_RulesFault.E : Env := ⟨tys, bys, [(118, ⟨spec_RuleFault.sg, spec_RuleFault.F⟩)], eqs⟩
def spec_RulesFault.l4 {ρ : Type} (k : Nat) (c0 : (Int × Unit) → Option ρ) (c1 : Unit → Option ρ) : Nat → List ((Int × (Int × Unit)) × (Int × (Int × (Int × (Bool × (Int × (Int × Unit))))))) → Int → Option ρ
  | 0 => fun _ _ => none
  | n + 1 => fun x0 x1 => 
    bif (decide ((x1 < (((List.length x0) : Nat) : Int)))) then
    (bif (Go.Dn.inB x1 (((List.length x0) : Nat) : Int)) then
      (Go.Dn.share (List.getD x0 (Int.toNat x1) (((0 : Int), ((0 : Int), ())), ((0 : Int), ((0 : Int), ((0 : Int), (false, ((0 : Int), ((0 : Int), ())))))))) fun s0 =>
        (spec_RuleFault.F k (s0, ())).bind fun y1 =>
        bif (y1.1.1 != (0 : Int)) then
        (c0 (y1.1.1, ()))
        else spec_RulesFault.l4 k c0 c1 n x0 (IntKind.wrap .i64 (x1 + (1 : Int))))
      else none)
    else c1 (())
def spec_RulesFault.F (k : Nat) (x : ((List ((Int × (Int × Unit)) × (Int × (Int × (Int × (Bool × (Int × (Int × Unit)))))))) × Unit)) : Option ((Int × Unit) × Unit) :=
  bif (decide (((((List.length x.1) : Nat) : Int) > (8 : Int)))) then
  (some (((2 : Int), ()), ()))
  else spec_RulesFault.l4 k (fun e2 =>
      some (e2, ())) (fun e3 =>
      some (((0 : Int), ()), ())) k x.1 (0 : Int)
def spec_RulesFault.hd : Hints := ⟨[(4, ⟨[0, 3], []⟩)], [(0, []), (1, [0, 3])], [2], [0, 3, 4], []⟩
def spec_RulesFault.lps (k : Nat) : List (Nat × Lp spec_RulesFault.sg.Out) := [(4, ⟨[.l kRule, .i], fun x => (fun x0 x1 => ⟨[(0, .v false [.fz kRule x0]), (3, .v false [.int .i64 x1])], [], []⟩) x.1 x.2.1, fun C n x => spec_RulesFault.l4 k (fun y => C .ret ((fun y0 => ⟨[(2, .v false [.int .i64 y0])], [], []⟩) y.1)) (fun _ => C (.exit 0) ⟨[], [], []⟩) n x.1 x.2.1⟩)]
theorem spec_RulesFault.loops (k : Nat) : LoopsOk spec_RulesFault.E k spec_RulesFault.hd (spec_RulesFault.lps k) (loopsOf (Go.Proofs.Tryz.f91.body.getD .skip)) := ⟨⟨fun _ _ => rfl, fun _ _ _ => by kernel_rfl, fun _ => ⟨rfl, rfl⟩⟩, trivial⟩
theorem spec_RulesFault.den (k : Nat) (x : Sig.In spec_RulesFault.sg.ps) : denFn spec_RulesFault.E k Go.Proofs.Tryz.f91 spec_RulesFault.sg spec_RulesFault.hd (runL k spec_RulesFault.hd (spec_RulesFault.lps k)) x = spec_RulesFault.F k x := by kernel_rfl
theorem spec_RulesFault.ok (k : Nat) : Contract Tryz.prog 91 spec_RulesFault.sg (spec_RulesFault.F k) := ok_of (E := spec_RulesFault.E) (tysOk _ _) (eqsOk _) ⟨spec_RuleFault.ok k, trivial⟩ Tryz.func91 rfl (by kernel_rfl) (spec_RulesFault.loops k) (spec_RulesFault.den k)
def spec_SettingsFault.sg : Sig := ⟨[.b kSettings], [((.int .i64), .rd)]⟩
def spec_SettingsFault.E : Env := ⟨tys, bys, [(89, ⟨spec_ConfigFault.sg, spec_ConfigFault.F⟩), (90, ⟨spec_l2Addr.sg, spec_l2Addr.F⟩), (91, ⟨spec_RulesFault.sg, spec_RulesFault.F⟩)], eqs⟩
def spec_SettingsFault.F (k : Nat) (x : (((Int × (Int × (Int × Unit))) × (Int × ((List ((Int × (Int × Unit)) × (Int × (Int × (Int × (Bool × (Int × (Int × Unit)))))))) × ((List ((Int × (Int × Unit)) × (Int × (Int × (Int × (Bool × (Int × (Int × Unit)))))))) × Unit)))) × Unit)) : Option ((Int × Unit) × Unit) :=
  (spec_ConfigFault.F k (x.1.1, ())).bind fun y0 =>
  bif (y0.1.1 != (0 : Int)) then
  (some y0)
  else (spec_l2Addr.F k (x.1.2.1, ())).bind fun y1 =>
    bif (!y1.1.1) then
    (some (((3 : Int), ()), ()))
    else (spec_RulesFault.F k (x.1.2.2.1, ())).bind fun y2 =>
      bif (y2.1.1 != (0 : Int)) then
      (some y2)
      else (spec_RulesFault.F k x.1.2.2.2).bind fun y3 =>
        some y3
def spec_SettingsFault.hd : Hints := ⟨[], [], [2], [0, 1, 3, 4], []⟩
def spec_SettingsFault.lps (k : Nat) : List (Nat × Lp spec_SettingsFault.sg.Out) := []
theorem spec_SettingsFault.loops (k : Nat) : LoopsOk spec_SettingsFault.E k spec_SettingsFault.hd (spec_SettingsFault.lps k) (loopsOf (Go.Proofs.Tryz.f50.body.getD .skip)) := trivial
theorem spec_SettingsFault.den (k : Nat) (x : Sig.In spec_SettingsFault.sg.ps) : denFn spec_SettingsFault.E k Go.Proofs.Tryz.f50 spec_SettingsFault.sg spec_SettingsFault.hd (runL k spec_SettingsFault.hd (spec_SettingsFault.lps k)) x = spec_SettingsFault.F k x := by kernel_rfl
theorem spec_SettingsFault.ok (k : Nat) : Contract Tryz.prog 50 spec_SettingsFault.sg (spec_SettingsFault.F k) := ok_of (E := spec_SettingsFault.E) (tysOk _ _) (eqsOk _) ⟨spec_ConfigFault.ok k, spec_l2Addr.ok k, spec_RulesFault.ok k, trivial⟩ Tryz.func50 rfl (by kernel_rfl) (spec_SettingsFault.loops k) (spec_SettingsFault.den k)
def spec_l10Epoch.sg : Sig := ⟨[.b (.int .i64)], [(.bool, .rd)]⟩
def spec_l10Epoch.E : Env := ⟨tys, bys, [(93, ⟨spec_l1In.sg, spec_l1In.F⟩)], eqs⟩
def spec_l10Epoch.F (k : Nat) (x : (Int × Unit)) : Option ((Bool × Unit) × Unit) :=
  (spec_l1In.F k (x.1, (1 : Int), (1000 : Int), ())).bind fun y0 =>
  some y0
def spec_l10Epoch.hd : Hints := ⟨[], [], [2], [0], []⟩
def spec_l10Epoch.lps (k : Nat) : List (Nat × Lp spec_l10Epoch.sg.Out) := []
theorem spec_l10Epoch.loops (k : Nat) : LoopsOk spec_l10Epoch.E k spec_l10Epoch.hd (spec_l10Epoch.lps k) (loopsOf (Go.Proofs.Tryz.f95.body.getD .skip)) := trivial
theorem spec_l10Epoch.den (k : Nat) (x : Sig.In spec_l10Epoch.sg.ps) : denFn spec_l10Epoch.E k Go.Proofs.Tryz.f95 spec_l10Epoch.sg spec_l10Epoch.hd (runL k spec_l10Epoch.hd (spec_l10Epoch.lps k)) x = spec_l10Epoch.F k x := by kernel_rfl
theorem spec_l10Epoch.ok (k : Nat) : Contract Tryz.prog 95 spec_l10Epoch.sg (spec_l10Epoch.F k) := ok_of (E := spec_l10Epoch.E) (tysOk _ _) (eqsOk _) ⟨spec_l1In.ok k, trivial⟩ Tryz.func95 rfl (by kernel_rfl) (spec_l10Epoch.loops k) (spec_l10Epoch.den k)
def spec_l7Peer.sg : Sig := ⟨[.b (.int .i64)], [(.bool, .rd)]⟩
def spec_l7Peer.E : Env := ⟨tys, bys, [(93, ⟨spec_l1In.sg, spec_l1In.F⟩)], eqs⟩
def spec_l7Peer.F (k : Nat) (x : (Int × Unit)) : Option ((Bool × Unit) × Unit) :=
  (spec_l1In.F k (x.1, (0 : Int), (2 : Int), ())).bind fun y0 =>
  some y0
def spec_l7Peer.hd : Hints := ⟨[], [], [2], [0], []⟩
def spec_l7Peer.lps (k : Nat) : List (Nat × Lp spec_l7Peer.sg.Out) := []
theorem spec_l7Peer.loops (k : Nat) : LoopsOk spec_l7Peer.E k spec_l7Peer.hd (spec_l7Peer.lps k) (loopsOf (Go.Proofs.Tryz.f81.body.getD .skip)) := trivial
theorem spec_l7Peer.den (k : Nat) (x : Sig.In spec_l7Peer.sg.ps) : denFn spec_l7Peer.E k Go.Proofs.Tryz.f81 spec_l7Peer.sg spec_l7Peer.hd (runL k spec_l7Peer.hd (spec_l7Peer.lps k)) x = spec_l7Peer.F k x := by kernel_rfl
theorem spec_l7Peer.ok (k : Nat) : Contract Tryz.prog 81 spec_l7Peer.sg (spec_l7Peer.F k) := ok_of (E := spec_l7Peer.E) (tysOk _ _) (eqsOk _) ⟨spec_l1In.ok k, trivial⟩ Tryz.func81 rfl (by kernel_rfl) (spec_l7Peer.loops k) (spec_l7Peer.den k)
def spec_EventFault.sg : Sig := ⟨[.b kEvent], [((.int .i64), .rd)]⟩
def spec_EventFault.E : Env := ⟨tys, bys, [(81, ⟨spec_l7Peer.sg, spec_l7Peer.F⟩), (93, ⟨spec_l1In.sg, spec_l1In.F⟩)], eqs⟩
def spec_EventFault.F (k : Nat) (x : ((Int × (Int × ((List Int) × Unit))) × Unit)) : Option ((Int × Unit) × Unit) :=
  (spec_l1In.F k (x.1.1, (1 : Int), (4 : Int), ())).bind fun y0 =>
  bif (!y0.1.1) then
  (some (((1 : Int), ()), ()))
  else (spec_l7Peer.F k (x.1.2.1, ())).bind fun y1 =>
    bif (!y1.1.1) then
    (some (((3 : Int), ()), ()))
    else bif (x.1.1 == (3 : Int)) then
      (bif (x.1.2.1 != (0 : Int)) then
        (some (((3 : Int), ()), ()))
        else bif (!((decide (((((List.length x.1.2.2.1) : Nat) : Int) > (0 : Int)))) == (x.1.1 == (2 : Int)))) then
          (some (((1 : Int), ()), ()))
          else bif (decide (((((List.length x.1.2.2.1) : Nat) : Int) > (60 : Int)))) then
            (some (((2 : Int), ()), ()))
            else some (((0 : Int), ()), ()))
      else bif (!((decide (((((List.length x.1.2.2.1) : Nat) : Int) > (0 : Int)))) == (x.1.1 == (2 : Int)))) then
        (some (((1 : Int), ()), ()))
        else bif (decide (((((List.length x.1.2.2.1) : Nat) : Int) > (60 : Int)))) then
          (some (((2 : Int), ()), ()))
          else some (((0 : Int), ()), ())
def spec_EventFault.hd : Hints := ⟨[], [], [2], [0, 1], []⟩
def spec_EventFault.lps (k : Nat) : List (Nat × Lp spec_EventFault.sg.Out) := []
theorem spec_EventFault.loops (k : Nat) : LoopsOk spec_EventFault.E k spec_EventFault.hd (spec_EventFault.lps k) (loopsOf (Go.Proofs.Tryz.f96.body.getD .skip)) := trivial
theorem spec_EventFault.den (k : Nat) (x : Sig.In spec_EventFault.sg.ps) : denFn spec_EventFault.E k Go.Proofs.Tryz.f96 spec_EventFault.sg spec_EventFault.hd (runL k spec_EventFault.hd (spec_EventFault.lps k)) x = spec_EventFault.F k x := by kernel_rfl
theorem spec_EventFault.ok (k : Nat) : Contract Tryz.prog 96 spec_EventFault.sg (spec_EventFault.F k) := ok_of (E := spec_EventFault.E) (tysOk _ _) (eqsOk _) ⟨spec_l7Peer.ok k, spec_l1In.ok k, trivial⟩ Tryz.func96 rfl (by kernel_rfl) (spec_EventFault.loops k) (spec_EventFault.den k)
def spec_EntryFault.sg : Sig := ⟨[.b kEntry], [((.int .i64), .rd)]⟩
def spec_EntryFault.E : Env := ⟨tys, bys, [(95, ⟨spec_l10Epoch.sg, spec_l10Epoch.F⟩), (96, ⟨spec_EventFault.sg, spec_EventFault.F⟩)], eqs⟩
def spec_EntryFault.F (k : Nat) (x : ((Int × ((Int × (Int × ((List Int) × Unit))) × Unit)) × Unit)) : Option ((Int × Unit) × Unit) :=
  (spec_l10Epoch.F k (x.1.1, ())).bind fun y0 =>
  bif (!y0.1.1) then
  (some (((3 : Int), ()), ()))
  else (spec_EventFault.F k x.1.2).bind fun y1 =>
    some y1
def spec_EntryFault.hd : Hints := ⟨[], [], [2], [0, 1], []⟩
def spec_EntryFault.lps (k : Nat) : List (Nat × Lp spec_EntryFault.sg.Out) := []
theorem spec_EntryFault.loops (k : Nat) : LoopsOk spec_EntryFault.E k spec_EntryFault.hd (spec_EntryFault.lps k) (loopsOf (Go.Proofs.Tryz.f54.body.getD .skip)) := trivial
theorem spec_EntryFault.den (k : Nat) (x : Sig.In spec_EntryFault.sg.ps) : denFn spec_EntryFault.E k Go.Proofs.Tryz.f54 spec_EntryFault.sg spec_EntryFault.hd (runL k spec_EntryFault.hd (spec_EntryFault.lps k)) x = spec_EntryFault.F k x := by kernel_rfl
theorem spec_EntryFault.ok (k : Nat) : Contract Tryz.prog 54 spec_EntryFault.sg (spec_EntryFault.F k) := ok_of (E := spec_EntryFault.E) (tysOk _ _) (eqsOk _) ⟨spec_l10Epoch.ok k, spec_EventFault.ok k, trivial⟩ Tryz.func54 rfl (by kernel_rfl) (spec_EntryFault.loops k) (spec_EntryFault.den k)
def spec_l12Log.sg : Sig := ⟨[.r kNode], [((.int .i64), .rd)]⟩
def spec_l12Log.E : Env := ⟨tys, bys, [(54, ⟨spec_EntryFault.sg, spec_EntryFault.F⟩)], eqs⟩
def spec_l12Log.l4 {ρ : Type} (k : Nat) (c0 : (Int × Unit) → Option ρ) (c1 : Unit → Option ρ) : Nat → (Int × (Bool × (Int × (Int × ((List (Int × ((Int × (Int × ((List Int) × Unit))) × Unit))) × (Int × (Int × (Int × (Int × Unit))))))))) → Int → Option ρ
  | 0 => fun _ _ => none
  | n + 1 => fun x0 x1 => 
    bif (decide ((x1 < (((List.length x0.2.2.2.2.1) : Nat) : Int)))) then
    (bif (Go.Dn.inB x1 (((List.length x0.2.2.2.2.1) : Nat) : Int)) then
      (Go.Dn.share (List.getD x0.2.2.2.2.1 (Int.toNat x1) ((0 : Int), (((0 : Int), ((0 : Int), (([] : List Int), ()))), ()))) fun s0 =>
        (spec_EntryFault.F k (s0, ())).bind fun y1 =>
        bif (y1.1.1 != (0 : Int)) then
        (c0 (y1.1.1, ()))
        else bif (Go.Dn.inB x1 (((List.length x0.2.2.2.2.1) : Nat) : Int)) then
          (Go.Dn.share (List.getD x0.2.2.2.2.1 (Int.toNat x1) ((0 : Int), (((0 : Int), ((0 : Int), (([] : List Int), ()))), ()))) fun s2 =>
            bif (decide ((s2.1 > x0.2.2.2.1))) then
            (c0 ((1 : Int), ()))
            else bif (decide ((x1 > (0 : Int)))) then
              (bif (Go.Dn.inB x1 (((List.length x0.2.2.2.2.1) : Nat) : Int)) then
                (Go.Dn.share (List.getD x0.2.2.2.2.1 (Int.toNat x1) ((0 : Int), (((0 : Int), ((0 : Int), (([] : List Int), ()))), ()))) fun s3 =>
                  bif (Go.Dn.inB (IntKind.wrap .i64 (x1 - (1 : Int))) (((List.length x0.2.2.2.2.1) : Nat) : Int)) then
                  (Go.Dn.share (List.getD x0.2.2.2.2.1 (Int.toNat (IntKind.wrap .i64 (x1 - (1 : Int)))) ((0 : Int), (((0 : Int), ((0 : Int), (([] : List Int), ()))), ()))) fun s4 =>
                    bif (decide ((s3.1 < s4.1))) then
                    (c0 ((1 : Int), ()))
                    else spec_l12Log.l4 k c0 c1 n x0 (IntKind.wrap .i64 (x1 + (1 : Int))))
                  else none)
                else none)
              else spec_l12Log.l4 k c0 c1 n x0 (IntKind.wrap .i64 (x1 + (1 : Int))))
          else none)
      else none)
    else c1 (())
def spec_l12Log.F (k : Nat) (x : ((Int × (Bool × (Int × (Int × ((List (Int × ((Int × (Int × ((List Int) × Unit))) × Unit))) × (Int × (Int × (Int × (Int × Unit))))))))) × Unit)) : Option ((Int × Unit) × Unit) :=
  bif (decide (((((List.length x.1.2.2.2.2.1) : Nat) : Int) > (100 : Int)))) then
  (some (((2 : Int), ()), ()))
  else spec_l12Log.l4 k (fun e5 =>
      some (e5, ())) (fun e6 =>
      some (((0 : Int), ()), ())) k x.1 (0 : Int)
def spec_l12Log.hd : Hints := ⟨[(4, ⟨[0, 3], []⟩)], [(0, []), (1, [0, 3])], [2], [0, 3, 4], [(9, [0, 1, 3, 7, 0, 31, 63, 127, 0, 256, 768, 1792, 4095, 8191, 16383, 32767, 65535, 131071, 262143, 524287, 1048575, 131071, 4194303, 8388607, 16777215, 131071, 33685503, 100794367, 235012095, 131071, 537001983, 2114060287, 4261543935, 8556511231, 17179869183, 34359738367, 68719476735])]⟩
def spec_l12Log.lps (k : Nat) : List (Nat × Lp spec_l12Log.sg.Out) := [(4, ⟨[.x kNode, .i], fun x => (fun x0 x1 => ⟨[(0, .v false [.fel kNode x0 0]), (3, .v false [.int .i64 x1])], [], []⟩) x.1 x.2.1, fun C n x => spec_l12Log.l4 k (fun y => C .ret ((fun y0 => ⟨[(2, .v false [.int .i64 y0])], [], []⟩) y.1)) (fun _ => C (.exit 0) ⟨[], [], []⟩) n x.1 x.2.1⟩)]
theorem spec_l12Log.loops (k : Nat) : LoopsOk spec_l12Log.E k spec_l12Log.hd (spec_l12Log.lps k) (loopsOf (Go.Proofs.Tryz.f119.body.getD .skip)) := ⟨⟨fun _ _ => rfl, fun _ _ _ => by kernel_rfl, fun _ => ⟨rfl, rfl⟩⟩, trivial⟩
theorem spec_l12Log.den (k : Nat) (x : Sig.In spec_l12Log.sg.ps) : denFn spec_l12Log.E k Go.Proofs.Tryz.f119 spec_l12Log.sg spec_l12Log.hd (runL k spec_l12Log.hd (spec_l12Log.lps k)) x = spec_l12Log.F k x := by kernel_rfl
theorem spec_l12Log.ok (k : Nat) : Contract Tryz.prog 119 spec_l12Log.sg (spec_l12Log.F k) := ok_of (E := spec_l12Log.E) (tysOk _ _) (eqsOk _) ⟨spec_EntryFault.ok k, trivial⟩ Tryz.func119 rfl (by kernel_rfl) (spec_l12Log.loops k) (spec_l12Log.den k)
def spec_l12Fault.sg : Sig := ⟨[.r kNode], [((.int .i64), .rd)]⟩
def spec_l12Fault.E : Env := ⟨tys, bys, [(93, ⟨spec_l1In.sg, spec_l1In.F⟩), (119, ⟨spec_l12Log.sg, spec_l12Log.F⟩)], eqs⟩
def spec_l12Fault.F (k : Nat) (x : ((Int × (Bool × (Int × (Int × ((List (Int × ((Int × (Int × ((List Int) × Unit))) × Unit))) × (Int × (Int × (Int × (Int × Unit))))))))) × Unit)) : Option ((Int × Unit) × Unit) :=
  (spec_l1In.F k (x.1.1, (0 : Int), (1 : Int), ())).bind fun y0 =>
  bif (!y0.1.1) then
  (some (((3 : Int), ()), ()))
  else (spec_l1In.F k (x.1.2.2.1, (0 : Int), (1 : Int), ())).bind fun y1 =>
    bif (!y1.1.1) then
    (some (((3 : Int), ()), ()))
    else (spec_l1In.F k (x.1.2.2.2.1, (0 : Int), (1000 : Int), ())).bind fun y2 =>
      bif (!y2.1.1) then
      (some (((3 : Int), ()), ()))
      else (spec_l12Log.F k x).bind fun y3 =>
        bif (y3.1.1 != (0 : Int)) then
        (some y3)
        else (spec_l1In.F k (x.1.2.2.2.2.2.1, (0 : Int), (((List.length x.1.2.2.2.2.1) : Nat) : Int), ())).bind fun y4 =>
          bif (!y4.1.1) then
          (some (((3 : Int), ()), ()))
          else (spec_l1In.F k (x.1.2.2.2.2.2.2.1, (0 : Int), (((List.length x.1.2.2.2.2.1) : Nat) : Int), ())).bind fun y5 =>
            bif (!y5.1.1) then
            (some (((3 : Int), ()), ()))
            else (spec_l1In.F k (x.1.2.2.2.2.2.2.2.1, (0 : Int), (((List.length x.1.2.2.2.2.1) : Nat) : Int), ())).bind fun y6 =>
              bif (!y6.1.1) then
              (some (((3 : Int), ()), ()))
              else (spec_l1In.F k (x.1.2.2.2.2.2.2.2.2.1, (0 : Int), x.1.2.2.2.2.2.1, ())).bind fun y7 =>
                bif (!y7.1.1) then
                (some (((3 : Int), ()), ()))
                else bif (x.1.2.2.1 == (1 : Int)) then
                  (bif (!x.1.2.1) then
                    (some (((1 : Int), ()), ()))
                    else bif (x.1.2.2.2.1 == (0 : Int)) then
                      (some (((1 : Int), ()), ()))
                      else bif (x.1.2.2.2.2.2.2.1 != (0 : Int)) then
                        (some (((1 : Int), ()), ()))
                        else bif (!(x.1.2.2.1 == (1 : Int))) then
                          (bif (x.1.2.2.2.2.2.2.2.1 != (0 : Int)) then
                            (some (((1 : Int), ()), ()))
                            else bif (!x.1.2.1) then
                              (bif (x.1.2.2.2.2.2.1 != (((List.length x.1.2.2.2.2.1) : Nat) : Int)) then
                                (some (((1 : Int), ()), ()))
                                else bif (x.1.2.2.2.2.2.2.1 != (0 : Int)) then
                                  (some (((1 : Int), ()), ()))
                                  else bif (x.1.2.2.2.2.2.2.2.2.1 != (0 : Int)) then
                                    (some (((1 : Int), ()), ()))
                                    else some (((0 : Int), ()), ()))
                              else some (((0 : Int), ()), ()))
                          else bif (!x.1.2.1) then
                            (bif (x.1.2.2.2.2.2.1 != (((List.length x.1.2.2.2.2.1) : Nat) : Int)) then
                              (some (((1 : Int), ()), ()))
                              else bif (x.1.2.2.2.2.2.2.1 != (0 : Int)) then
                                (some (((1 : Int), ()), ()))
                                else bif (x.1.2.2.2.2.2.2.2.2.1 != (0 : Int)) then
                                  (some (((1 : Int), ()), ()))
                                  else some (((0 : Int), ()), ()))
                            else some (((0 : Int), ()), ()))
                  else bif (!(x.1.2.2.1 == (1 : Int))) then
                    (bif (x.1.2.2.2.2.2.2.2.1 != (0 : Int)) then
                      (some (((1 : Int), ()), ()))
                      else bif (!x.1.2.1) then
                        (bif (x.1.2.2.2.2.2.1 != (((List.length x.1.2.2.2.2.1) : Nat) : Int)) then
                          (some (((1 : Int), ()), ()))
                          else bif (x.1.2.2.2.2.2.2.1 != (0 : Int)) then
                            (some (((1 : Int), ()), ()))
                            else bif (x.1.2.2.2.2.2.2.2.2.1 != (0 : Int)) then
                              (some (((1 : Int), ()), ()))
                              else some (((0 : Int), ()), ()))
                        else some (((0 : Int), ()), ()))
                    else bif (!x.1.2.1) then
                      (bif (x.1.2.2.2.2.2.1 != (((List.length x.1.2.2.2.2.1) : Nat) : Int)) then
                        (some (((1 : Int), ()), ()))
                        else bif (x.1.2.2.2.2.2.2.1 != (0 : Int)) then
                          (some (((1 : Int), ()), ()))
                          else bif (x.1.2.2.2.2.2.2.2.2.1 != (0 : Int)) then
                            (some (((1 : Int), ()), ()))
                            else some (((0 : Int), ()), ()))
                      else some (((0 : Int), ()), ())
def spec_l12Fault.hd : Hints := ⟨[], [], [2], [0, 3, 4, 5], [(7, [0, 1, 3, 7, 0, 31, 63, 127, 255, 511, 1023, 2047, 255, 8191, 16383, 32767, 65535, 131071, 262143, 524287, 1048575, 131071, 4194303, 8388607, 16777215, 33554431, 67108863, 134217727, 268435455, 536870911, 67108863, 1140850687, 3288334335, 7583301631, 17179869183, 34359738367, 68719476735])]⟩
def spec_l12Fault.lps (k : Nat) : List (Nat × Lp spec_l12Fault.sg.Out) := []
theorem spec_l12Fault.loops (k : Nat) : LoopsOk spec_l12Fault.E k spec_l12Fault.hd (spec_l12Fault.lps k) (loopsOf (Go.Proofs.Tryz.f92.body.getD .skip)) := trivial
theorem spec_l12Fault.den (k : Nat) (x : Sig.In spec_l12Fault.sg.ps) : denFn spec_l12Fault.E k Go.Proofs.Tryz.f92 spec_l12Fault.sg spec_l12Fault.hd (runL k spec_l12Fault.hd (spec_l12Fault.lps k)) x = spec_l12Fault.F k x := by kernel_rfl
theorem spec_l12Fault.ok (k : Nat) : Contract Tryz.prog 92 spec_l12Fault.sg (spec_l12Fault.F k) := ok_of (E := spec_l12Fault.E) (tysOk _ _) (eqsOk _) ⟨spec_l1In.ok k, spec_l12Log.ok k, trivial⟩ Tryz.func92 rfl (by kernel_rfl) (spec_l12Fault.loops k) (spec_l12Fault.den k)
def spec_l14Nodes.sg : Sig := ⟨[.r kPair], [((.int .i64), .rd)]⟩
def spec_l14Nodes.E : Env := ⟨tys, bys, [(92, ⟨spec_l12Fault.sg, spec_l12Fault.F⟩)], eqs⟩
def spec_l14Nodes.l2 {ρ : Type} (k : Nat) (c0 : (Int × Unit) → Option ρ) (c1 : Unit → Option ρ) : Nat → (((Int × (Int × (Int × Unit))) × (Int × ((List ((Int × (Int × Unit)) × (Int × (Int × (Int × (Bool × (Int × (Int × Unit)))))))) × ((List ((Int × (Int × Unit)) × (Int × (Int × (Int × (Bool × (Int × (Int × Unit)))))))) × Unit)))) × ((List (Int × (Bool × (Int × (Int × ((List (Int × ((Int × (Int × ((List Int) × Unit))) × Unit))) × (Int × (Int × (Int × (Int × Unit)))))))))) × ((List (Int × ((List Int) × (Int × ((List Int) × Unit))))) × ((List (Int × (Int × (Int × (Int × (Int × (Bool × ((Int × ((Int × (Int × ((List Int) × Unit))) × Unit)) × Unit)))))))) × ((List (Int × ((Int × (Int × ((List Int) × Unit))) × Unit))) × Unit))))) → Int → Option ρ
  | 0 => fun _ _ => none
  | n + 1 => fun x0 x1 => 
    bif (decide ((x1 < (2 : Int)))) then
    (bif (Go.Dn.inB x1 (((List.length x0.2.1) : Nat) : Int)) then
      (Go.Dn.share (List.getD x0.2.1 (Int.toNat x1) ((0 : Int), (false, ((0 : Int), ((0 : Int), (([] : List (Int × ((Int × (Int × ((List Int) × Unit))) × Unit))), ((0 : Int), ((0 : Int), ((0 : Int), ((0 : Int), ())))))))))) fun s0 =>
        (spec_l12Fault.F k (s0, ())).bind fun y1 =>
        bif (y1.1.1 != (0 : Int)) then
        (c0 (y1.1.1, ()))
        else bif (Go.Dn.inB x1 (((List.length x0.2.1) : Nat) : Int)) then
          (Go.Dn.share (List.getD x0.2.1 (Int.toNat x1) ((0 : Int), (false, ((0 : Int), ((0 : Int), (([] : List (Int × ((Int × (Int × ((List Int) × Unit))) × Unit))), ((0 : Int), ((0 : Int), ((0 : Int), ((0 : Int), ())))))))))) fun s2 =>
            bif (s2.1 != x1) then
            (c0 ((1 : Int), ()))
            else spec_l14Nodes.l2 k c0 c1 n x0 (IntKind.wrap .i64 (x1 + (1 : Int))))
          else none)
      else none)
    else c1 (())
def spec_l14Nodes.F (k : Nat) (x : ((((Int × (Int × (Int × Unit))) × (Int × ((List ((Int × (Int × Unit)) × (Int × (Int × (Int × (Bool × (Int × (Int × Unit)))))))) × ((List ((Int × (Int × Unit)) × (Int × (Int × (Int × (Bool × (Int × (Int × Unit)))))))) × Unit)))) × ((List (Int × (Bool × (Int × (Int × ((List (Int × ((Int × (Int × ((List Int) × Unit))) × Unit))) × (Int × (Int × (Int × (Int × Unit)))))))))) × ((List (Int × ((List Int) × (Int × ((List Int) × Unit))))) × ((List (Int × (Int × (Int × (Int × (Int × (Bool × ((Int × ((Int × (Int × ((List Int) × Unit))) × Unit)) × Unit)))))))) × ((List (Int × ((Int × (Int × ((List Int) × Unit))) × Unit))) × Unit))))) × Unit)) : Option ((Int × Unit) × Unit) :=
  spec_l14Nodes.l2 k (fun e3 =>
    some (e3, ())) (fun e4 =>
    some (((0 : Int), ()), ())) k x.1 (0 : Int)
def spec_l14Nodes.hd : Hints := ⟨[(2, ⟨[0, 3], []⟩)], [(0, []), (1, [0, 3])], [2], [0, 3, 4], []⟩
def spec_l14Nodes.lps (k : Nat) : List (Nat × Lp spec_l14Nodes.sg.Out) := [(2, ⟨[.x kPair, .i], fun x => (fun x0 x1 => ⟨[(0, .v false [.fel kPair x0 0]), (3, .v false [.int .i64 x1])], [], []⟩) x.1 x.2.1, fun C n x => spec_l14Nodes.l2 k (fun y => C .ret ((fun y0 => ⟨[(2, .v false [.int .i64 y0])], [], []⟩) y.1)) (fun _ => C (.exit 0) ⟨[], [], []⟩) n x.1 x.2.1⟩)]
theorem spec_l14Nodes.loops (k : Nat) : LoopsOk spec_l14Nodes.E k spec_l14Nodes.hd (spec_l14Nodes.lps k) (loopsOf (Go.Proofs.Tryz.f51.body.getD .skip)) := ⟨⟨fun _ _ => rfl, fun _ _ _ => by kernel_rfl, fun _ => ⟨rfl, rfl⟩⟩, trivial⟩
theorem spec_l14Nodes.den (k : Nat) (x : Sig.In spec_l14Nodes.sg.ps) : denFn spec_l14Nodes.E k Go.Proofs.Tryz.f51 spec_l14Nodes.sg spec_l14Nodes.hd (runL k spec_l14Nodes.hd (spec_l14Nodes.lps k)) x = spec_l14Nodes.F k x := by kernel_rfl
theorem spec_l14Nodes.ok (k : Nat) : Contract Tryz.prog 51 spec_l14Nodes.sg (spec_l14Nodes.F k) := ok_of (E := spec_l14Nodes.E) (tysOk _ _) (eqsOk _) ⟨spec_l12Fault.ok k, trivial⟩ Tryz.func51 rfl (by kernel_rfl) (spec_l14Nodes.loops k) (spec_l14Nodes.den k)
def spec_WireFault.sg : Sig := ⟨[.b kWire], [((.int .i64), .rd)]⟩
def spec_WireFault.E : Env := ⟨tys, bys, [(93, ⟨spec_l1In.sg, spec_l1In.F⟩)], eqs⟩
def spec_WireFault.F (k : Nat) (x : ((Int × ((List Int) × (Int × ((List Int) × Unit)))) × Unit)) : Option ((Int × Unit) × Unit) :=
  (spec_l1In.F k (x.1.1, (0 : Int), (1000 : Int), ())).bind fun y0 =>
  bif (!y0.1.1) then
  (some (((3 : Int), ()), ()))
  else bif (decide (((((List.length x.1.2.1) : Nat) : Int) > (2000 : Int)))) then
    (some (((2 : Int), ()), ()))
    else bif (decide (((((List.length x.1.2.2.2.1) : Nat) : Int) > (2000 : Int)))) then
      (some (((2 : Int), ()), ()))
      else (spec_l1In.F k (x.1.2.2.1, (0 : Int), (((List.length x.1.2.1) : Nat) : Int), ())).bind fun y1 =>
        bif (!y1.1.1) then
        (some (((3 : Int), ()), ()))
        else some (((0 : Int), ()), ())
def spec_WireFault.hd : Hints := ⟨[], [], [2], [0, 1], []⟩
def spec_WireFault.lps (k : Nat) : List (Nat × Lp spec_WireFault.sg.Out) := []
theorem spec_WireFault.loops (k : Nat) : LoopsOk spec_WireFault.E k spec_WireFault.hd (spec_WireFault.lps k) (loopsOf (Go.Proofs.Tryz.f52.body.getD .skip)) := trivial
theorem spec_WireFault.den (k : Nat) (x : Sig.In spec_WireFault.sg.ps) : denFn spec_WireFault.E k Go.Proofs.Tryz.f52 spec_WireFault.sg spec_WireFault.hd (runL k spec_WireFault.hd (spec_WireFault.lps k)) x = spec_WireFault.F k x := by kernel_rfl
theorem spec_WireFault.ok (k : Nat) : Contract Tryz.prog 52 spec_WireFault.sg (spec_WireFault.F k) := ok_of (E := spec_WireFault.E) (tysOk _ _) (eqsOk _) ⟨spec_l1In.ok k, trivial⟩ Tryz.func52 rfl (by kernel_rfl) (spec_WireFault.loops k) (spec_WireFault.den k)
def spec_l12Zero.sg : Sig := ⟨[.b kEntry], [(.bool, .rd)]⟩
def spec_l12Zero.E : Env := ⟨tys, bys, [], eqs⟩
def spec_l12Zero.F (k : Nat) (x : ((Int × ((Int × (Int × ((List Int) × Unit))) × Unit)) × Unit)) : Option ((Bool × Unit) × Unit) :=
  bif (x.1.1 == (0 : Int)) then
  (bif (x.1.2.1.1 == (0 : Int)) then
    (bif (x.1.2.1.2.1 == (0 : Int)) then
      (some ((((((List.length x.1.2.1.2.2.1) : Nat) : Int) == (0 : Int)), ()), ()))
      else some ((false, ()), ()))
    else some ((false, ()), ()))
  else some ((false, ()), ())
def spec_l12Zero.hd : Hints := ⟨[], [], [2], [0, 1], []⟩
def spec_l12Zero.lps (k : Nat) : List (Nat × Lp spec_l12Zero.sg.Out) := []
theorem spec_l12Zero.loops (k : Nat) : LoopsOk spec_l12Zero.E k spec_l12Zero.hd (spec_l12Zero.lps k) (loopsOf (Go.Proofs.Tryz.f128.body.getD .skip)) := trivial
theorem spec_l12Zero.den (k : Nat) (x : Sig.In spec_l12Zero.sg.ps) : denFn spec_l12Zero.E k Go.Proofs.Tryz.f128 spec_l12Zero.sg spec_l12Zero.hd (runL k spec_l12Zero.hd (spec_l12Zero.lps k)) x = spec_l12Zero.F k x := by kernel_rfl
theorem spec_l12Zero.ok (k : Nat) : Contract Tryz.prog 128 spec_l12Zero.sg (spec_l12Zero.F k) := ok_of (E := spec_l12Zero.E) (tysOk _ _) (eqsOk _) trivial Tryz.func128 rfl (by kernel_rfl) (spec_l12Zero.loops k) (spec_l12Zero.den k)
def spec_l12Form.sg : Sig := ⟨[.b kMail], [(.bool, .rd)]⟩
def spec_l12Form.E : Env := ⟨tys, bys, [(128, ⟨spec_l12Zero.sg, spec_l12Zero.F⟩)], eqs⟩
def spec_l12Form.F (k : Nat) (x : ((Int × (Int × (Int × (Int × (Int × (Bool × ((Int × ((Int × (Int × ((List Int) × Unit))) × Unit)) × Unit))))))) × Unit)) : Option ((Bool × Unit) × Unit) :=
  bif (x.1.1 == (2 : Int)) then
  (bif (!x.1.2.2.2.2.2.1) then
    (bif (x.1.2.2.2.2.1 == (0 : Int)) then
      ((spec_l12Zero.F k x.1.2.2.2.2.2.2).bind fun y0 =>
        some y0)
      else some ((false, ()), ()))
    else some ((false, ()), ()))
  else bif ((x.1.2.2.2.1 == (0 : Int)) == (x.1.2.2.2.2.1 == (0 : Int))) then
    (bif x.1.2.2.2.2.2.1 then
      (some (((decide ((x.1.2.2.2.2.1 ≤ x.1.2.2.1))), ()), ()))
      else (spec_l12Zero.F k x.1.2.2.2.2.2.2).bind fun y1 =>
        bif y1.1.1 then
        (some (((decide ((x.1.2.2.2.2.1 ≤ x.1.2.2.1))), ()), ()))
        else some ((false, ()), ()))
    else some ((false, ()), ())
def spec_l12Form.hd : Hints := ⟨[], [], [2], [0, 1], []⟩
def spec_l12Form.lps (k : Nat) : List (Nat × Lp spec_l12Form.sg.Out) := []
theorem spec_l12Form.loops (k : Nat) : LoopsOk spec_l12Form.E k spec_l12Form.hd (spec_l12Form.lps k) (loopsOf (Go.Proofs.Tryz.f120.body.getD .skip)) := trivial
theorem spec_l12Form.den (k : Nat) (x : Sig.In spec_l12Form.sg.ps) : denFn spec_l12Form.E k Go.Proofs.Tryz.f120 spec_l12Form.sg spec_l12Form.hd (runL k spec_l12Form.hd (spec_l12Form.lps k)) x = spec_l12Form.F k x := by kernel_rfl
theorem spec_l12Form.ok (k : Nat) : Contract Tryz.prog 120 spec_l12Form.sg (spec_l12Form.F k) := ok_of (E := spec_l12Form.E) (tysOk _ _) (eqsOk _) ⟨spec_l12Zero.ok k, trivial⟩ Tryz.func120 rfl (by kernel_rfl) (spec_l12Form.loops k) (spec_l12Form.den k)
def spec_l12Mail.sg : Sig := ⟨[.r kNode, .b kMail], [((.int .i64), .rd)]⟩
def spec_l12Mail.E : Env := ⟨tys, bys, [(54, ⟨spec_EntryFault.sg, spec_EntryFault.F⟩), (93, ⟨spec_l1In.sg, spec_l1In.F⟩), (95, ⟨spec_l10Epoch.sg, spec_l10Epoch.F⟩), (120, ⟨spec_l12Form.sg, spec_l12Form.F⟩)], eqs⟩
def spec_l12Mail.F (k : Nat) (x : ((Int × (Bool × (Int × (Int × ((List (Int × ((Int × (Int × ((List Int) × Unit))) × Unit))) × (Int × (Int × (Int × (Int × Unit))))))))) × ((Int × (Int × (Int × (Int × (Int × (Bool × ((Int × ((Int × (Int × ((List Int) × Unit))) × Unit)) × Unit))))))) × Unit))) : Option ((Int × Unit) × Unit) :=
  (spec_l1In.F k (x.2.1.1, (1 : Int), (2 : Int), ())).bind fun y0 =>
  bif (!y0.1.1) then
  (some (((1 : Int), ()), ()))
  else bif (x.2.1.2.1 != x.1.1) then
    (some (((1 : Int), ()), ()))
    else (spec_l10Epoch.F k (x.2.1.2.2.1, ())).bind fun y1 =>
      bif (!y1.1.1) then
      (some (((3 : Int), ()), ()))
      else (spec_l1In.F k (x.2.1.2.2.2.1, (0 : Int), (100 : Int), ())).bind fun y2 =>
        bif (!y2.1.1) then
        (some (((3 : Int), ()), ()))
        else (spec_l1In.F k (x.2.1.2.2.2.2.1, (0 : Int), (1000 : Int), ())).bind fun y3 =>
          bif (!y3.1.1) then
          (some (((3 : Int), ()), ()))
          else (spec_l12Form.F k x.2).bind fun y4 =>
            bif (!y4.1.1) then
            (some (((1 : Int), ()), ()))
            else bif x.2.1.2.2.2.2.2.1 then
              ((spec_EntryFault.F k x.2.1.2.2.2.2.2.2).bind fun y5 =>
                bif (y5.1.1 != (0 : Int)) then
                (some y5)
                else bif (decide ((x.2.1.2.2.2.2.2.2.1.1 > x.2.1.2.2.1))) then
                  (some (((1 : Int), ()), ()))
                  else bif (decide ((x.2.1.2.2.2.2.2.2.1.1 < x.2.1.2.2.2.2.1))) then
                    (some (((1 : Int), ()), ()))
                    else some (((0 : Int), ()), ()))
              else some (((0 : Int), ()), ())
def spec_l12Mail.hd : Hints := ⟨[], [], [4], [0, 1, 3, 5], [(1, [0, 1, 3, 7, 15, 31, 63, 31, 159, 415, 927, 2047, 4095])]⟩
def spec_l12Mail.lps (k : Nat) : List (Nat × Lp spec_l12Mail.sg.Out) := []
theorem spec_l12Mail.loops (k : Nat) : LoopsOk spec_l12Mail.E k spec_l12Mail.hd (spec_l12Mail.lps k) (loopsOf (Go.Proofs.Tryz.f94.body.getD .skip)) := trivial
theorem spec_l12Mail.den (k : Nat) (x : Sig.In spec_l12Mail.sg.ps) : denFn spec_l12Mail.E k Go.Proofs.Tryz.f94 spec_l12Mail.sg spec_l12Mail.hd (runL k spec_l12Mail.hd (spec_l12Mail.lps k)) x = spec_l12Mail.F k x := by kernel_rfl
theorem spec_l12Mail.ok (k : Nat) : Contract Tryz.prog 94 spec_l12Mail.sg (spec_l12Mail.F k) := ok_of (E := spec_l12Mail.E) (tysOk _ _) (eqsOk _) ⟨spec_EntryFault.ok k, spec_l1In.ok k, spec_l10Epoch.ok k, spec_l12Form.ok k, trivial⟩ Tryz.func94 rfl (by kernel_rfl) (spec_l12Mail.loops k) (spec_l12Mail.den k)
def spec_l14Mails.sg : Sig := ⟨[.r kPair], [((.int .i64), .rd)]⟩
def spec_l14Mails.E : Env := ⟨tys, bys, [(93, ⟨spec_l1In.sg, spec_l1In.F⟩), (94, ⟨spec_l12Mail.sg, spec_l12Mail.F⟩)], eqs⟩
def spec_l14Mails.l4 {ρ : Type} (k : Nat) (c0 : (Int × Unit) → Option ρ) (c1 : Unit → Option ρ) : Nat → (((Int × (Int × (Int × Unit))) × (Int × ((List ((Int × (Int × Unit)) × (Int × (Int × (Int × (Bool × (Int × (Int × Unit)))))))) × ((List ((Int × (Int × Unit)) × (Int × (Int × (Int × (Bool × (Int × (Int × Unit)))))))) × Unit)))) × ((List (Int × (Bool × (Int × (Int × ((List (Int × ((Int × (Int × ((List Int) × Unit))) × Unit))) × (Int × (Int × (Int × (Int × Unit)))))))))) × ((List (Int × ((List Int) × (Int × ((List Int) × Unit))))) × ((List (Int × (Int × (Int × (Int × (Int × (Bool × ((Int × ((Int × (Int × ((List Int) × Unit))) × Unit)) × Unit)))))))) × ((List (Int × ((Int × (Int × ((List Int) × Unit))) × Unit))) × Unit))))) → Int → Option ρ
  | 0 => fun _ _ => none
  | n + 1 => fun x0 x1 => 
    bif (decide ((x1 < (((List.length x0.2.2.2.1) : Nat) : Int)))) then
    (bif (Go.Dn.inB x1 (((List.length x0.2.2.2.1) : Nat) : Int)) then
      (Go.Dn.share (List.getD x0.2.2.2.1 (Int.toNat x1) ((0 : Int), ((0 : Int), ((0 : Int), ((0 : Int), ((0 : Int), (false, (((0 : Int), (((0 : Int), ((0 : Int), (([] : List Int), ()))), ())), ())))))))) fun s0 =>
        (spec_l1In.F k (s0.2.1, (0 : Int), (1 : Int), ())).bind fun y1 =>
        bif (!y1.1.1) then
        (c0 ((1 : Int), ()))
        else bif (Go.Dn.inB x1 (((List.length x0.2.2.2.1) : Nat) : Int)) then
          (Go.Dn.share (List.getD x0.2.2.2.1 (Int.toNat x1) ((0 : Int), ((0 : Int), ((0 : Int), ((0 : Int), ((0 : Int), (false, (((0 : Int), (((0 : Int), ((0 : Int), (([] : List Int), ()))), ())), ())))))))) fun s2 =>
            bif (Go.Dn.inB s2.2.1 (((List.length x0.2.1) : Nat) : Int)) then
            (Go.Dn.share (List.getD x0.2.1 (Int.toNat s2.2.1) ((0 : Int), (false, ((0 : Int), ((0 : Int), (([] : List (Int × ((Int × (Int × ((List Int) × Unit))) × Unit))), ((0 : Int), ((0 : Int), ((0 : Int), ((0 : Int), ())))))))))) fun s3 =>
              bif (Go.Dn.inB x1 (((List.length x0.2.2.2.1) : Nat) : Int)) then
              (Go.Dn.share (List.getD x0.2.2.2.1 (Int.toNat x1) ((0 : Int), ((0 : Int), ((0 : Int), ((0 : Int), ((0 : Int), (false, (((0 : Int), (((0 : Int), ((0 : Int), (([] : List Int), ()))), ())), ())))))))) fun s4 =>
                (spec_l12Mail.F k (s3, s4, ())).bind fun y5 =>
                bif (y5.1.1 != (0 : Int)) then
                (c0 (y5.1.1, ()))
                else spec_l14Mails.l4 k c0 c1 n x0 (IntKind.wrap .i64 (x1 + (1 : Int))))
              else none)
            else none)
          else none)
      else none)
    else c1 (())
def spec_l14Mails.F (k : Nat) (x : ((((Int × (Int × (Int × Unit))) × (Int × ((List ((Int × (Int × Unit)) × (Int × (Int × (Int × (Bool × (Int × (Int × Unit)))))))) × ((List ((Int × (Int × Unit)) × (Int × (Int × (Int × (Bool × (Int × (Int × Unit)))))))) × Unit)))) × ((List (Int × (Bool × (Int × (Int × ((List (Int × ((Int × (Int × ((List Int) × Unit))) × Unit))) × (Int × (Int × (Int × (Int × Unit)))))))))) × ((List (Int × ((List Int) × (Int × ((List Int) × Unit))))) × ((List (Int × (Int × (Int × (Int × (Int × (Bool × ((Int × ((Int × (Int × ((List Int) × Unit))) × Unit)) × Unit)))))))) × ((List (Int × ((Int × (Int × ((List Int) × Unit))) × Unit))) × Unit))))) × Unit)) : Option ((Int × Unit) × Unit) :=
  bif (decide (((((List.length x.1.2.2.2.1) : Nat) : Int) > (40 : Int)))) then
  (some (((2 : Int), ()), ()))
  else spec_l14Mails.l4 k (fun e6 =>
      some (e6, ())) (fun e7 =>
      some (((0 : Int), ()), ())) k x.1 (0 : Int)
def spec_l14Mails.hd : Hints := ⟨[(4, ⟨[0, 3], []⟩)], [(0, []), (1, [0, 3])], [2], [0, 3, 4], [(8, [0, 1, 3, 7, 0, 16, 48, 112, 0, 496, 1008, 2032, 4095, 0, 8192, 24576, 57344, 0, 253952, 516096, 1048575, 2097151])]⟩
def spec_l14Mails.lps (k : Nat) : List (Nat × Lp spec_l14Mails.sg.Out) := [(4, ⟨[.x kPair, .i], fun x => (fun x0 x1 => ⟨[(0, .v false [.fel kPair x0 0]), (3, .v false [.int .i64 x1])], [], []⟩) x.1 x.2.1, fun C n x => spec_l14Mails.l4 k (fun y => C .ret ((fun y0 => ⟨[(2, .v false [.int .i64 y0])], [], []⟩) y.1)) (fun _ => C (.exit 0) ⟨[], [], []⟩) n x.1 x.2.1⟩)]
theorem spec_l14Mails.loops (k : Nat) : LoopsOk spec_l14Mails.E k spec_l14Mails.hd (spec_l14Mails.lps k) (loopsOf (Go.Proofs.Tryz.f53.body.getD .skip)) := ⟨⟨fun _ _ => rfl, fun _ _ _ => by kernel_rfl, fun _ => ⟨rfl, rfl⟩⟩, trivial⟩
theorem spec_l14Mails.den (k : Nat) (x : Sig.In spec_l14Mails.sg.ps) : denFn spec_l14Mails.E k Go.Proofs.Tryz.f53 spec_l14Mails.sg spec_l14Mails.hd (runL k spec_l14Mails.hd (spec_l14Mails.lps k)) x = spec_l14Mails.F k x := by kernel_rfl
theorem spec_l14Mails.ok (k : Nat) : Contract Tryz.prog 53 spec_l14Mails.sg (spec_l14Mails.F k) := ok_of (E := spec_l14Mails.E) (tysOk _ _) (eqsOk _) ⟨spec_l1In.ok k, spec_l12Mail.ok k, trivial⟩ Tryz.func53 rfl (by kernel_rfl) (spec_l14Mails.loops k) (spec_l14Mails.den k)
def spec_l14Fault.sg : Sig := ⟨[.r kPair], [((.int .i64), .rd)]⟩
def spec_l14Fault.E : Env := ⟨tys, bys, [(50, ⟨spec_SettingsFault.sg, spec_SettingsFault.F⟩), (51, ⟨spec_l14Nodes.sg, spec_l14Nodes.F⟩), (52, ⟨spec_WireFault.sg, spec_WireFault.F⟩), (53, ⟨spec_l14Mails.sg, spec_l14Mails.F⟩), (54, ⟨spec_EntryFault.sg, spec_EntryFault.F⟩)], eqs⟩
def spec_l14Fault.l10 {ρ : Type} (k : Nat) (c0 : (Int × Unit) → Option ρ) (c1 : ((((Int × (Int × (Int × Unit))) × (Int × ((List ((Int × (Int × Unit)) × (Int × (Int × (Int × (Bool × (Int × (Int × Unit)))))))) × ((List ((Int × (Int × Unit)) × (Int × (Int × (Int × (Bool × (Int × (Int × Unit)))))))) × Unit)))) × ((List (Int × (Bool × (Int × (Int × ((List (Int × ((Int × (Int × ((List Int) × Unit))) × Unit))) × (Int × (Int × (Int × (Int × Unit)))))))))) × ((List (Int × ((List Int) × (Int × ((List Int) × Unit))))) × ((List (Int × (Int × (Int × (Int × (Int × (Bool × ((Int × ((Int × (Int × ((List Int) × Unit))) × Unit)) × Unit)))))))) × ((List (Int × ((Int × (Int × ((List Int) × Unit))) × Unit))) × Unit))))) × Unit) → Option ρ) : Nat → (((Int × (Int × (Int × Unit))) × (Int × ((List ((Int × (Int × Unit)) × (Int × (Int × (Int × (Bool × (Int × (Int × Unit)))))))) × ((List ((Int × (Int × Unit)) × (Int × (Int × (Int × (Bool × (Int × (Int × Unit)))))))) × Unit)))) × ((List (Int × (Bool × (Int × (Int × ((List (Int × ((Int × (Int × ((List Int) × Unit))) × Unit))) × (Int × (Int × (Int × (Int × Unit)))))))))) × ((List (Int × ((List Int) × (Int × ((List Int) × Unit))))) × ((List (Int × (Int × (Int × (Int × (Int × (Bool × ((Int × ((Int × (Int × ((List Int) × Unit))) × Unit)) × Unit)))))))) × ((List (Int × ((Int × (Int × ((List Int) × Unit))) × Unit))) × Unit))))) → Int → Option ρ
  | 0 => fun _ _ => none
  | n + 1 => fun x0 x1 => 
    bif (decide ((x1 < (((List.length x0.2.2.1) : Nat) : Int)))) then
    (bif (Go.Dn.inB x1 (((List.length x0.2.2.1) : Nat) : Int)) then
      (Go.Dn.share (List.getD x0.2.2.1 (Int.toNat x1) ((0 : Int), (([] : List Int), ((0 : Int), (([] : List Int), ()))))) fun s2 =>
        (spec_WireFault.F k (s2, ())).bind fun y3 =>
        bif (y3.1.1 != (0 : Int)) then
        (c0 (y3.1.1, ()))
        else spec_l14Fault.l10 k c0 c1 n x0 (IntKind.wrap .i64 (x1 + (1 : Int))))
      else none)
    else c1 (x0, ())
def spec_l14Fault.l21 {ρ : Type} (k : Nat) (c0 : (Int × Unit) → Option ρ) (c1 : Unit → Option ρ) : Nat → (((Int × (Int × (Int × Unit))) × (Int × ((List ((Int × (Int × Unit)) × (Int × (Int × (Int × (Bool × (Int × (Int × Unit)))))))) × ((List ((Int × (Int × Unit)) × (Int × (Int × (Int × (Bool × (Int × (Int × Unit)))))))) × Unit)))) × ((List (Int × (Bool × (Int × (Int × ((List (Int × ((Int × (Int × ((List Int) × Unit))) × Unit))) × (Int × (Int × (Int × (Int × Unit)))))))))) × ((List (Int × ((List Int) × (Int × ((List Int) × Unit))))) × ((List (Int × (Int × (Int × (Int × (Int × (Bool × ((Int × ((Int × (Int × ((List Int) × Unit))) × Unit)) × Unit)))))))) × ((List (Int × ((Int × (Int × ((List Int) × Unit))) × Unit))) × Unit))))) → Int → Option ρ
  | 0 => fun _ _ => none
  | n + 1 => fun x0 x1 => 
    bif (decide ((x1 < (((List.length x0.2.2.2.2.1) : Nat) : Int)))) then
    (bif (Go.Dn.inB x1 (((List.length x0.2.2.2.2.1) : Nat) : Int)) then
      (Go.Dn.share (List.getD x0.2.2.2.2.1 (Int.toNat x1) ((0 : Int), (((0 : Int), ((0 : Int), (([] : List Int), ()))), ()))) fun s7 =>
        (spec_EntryFault.F k (s7, ())).bind fun y8 =>
        bif (y8.1.1 != (0 : Int)) then
        (c0 (y8.1.1, ()))
        else spec_l14Fault.l21 k c0 c1 n x0 (IntKind.wrap .i64 (x1 + (1 : Int))))
      else none)
    else c1 (())
def spec_l14Fault.F (k : Nat) (x : ((((Int × (Int × (Int × Unit))) × (Int × ((List ((Int × (Int × Unit)) × (Int × (Int × (Int × (Bool × (Int × (Int × Unit)))))))) × ((List ((Int × (Int × Unit)) × (Int × (Int × (Int × (Bool × (Int × (Int × Unit)))))))) × Unit)))) × ((List (Int × (Bool × (Int × (Int × ((List (Int × ((Int × (Int × ((List Int) × Unit))) × Unit))) × (Int × (Int × (Int × (Int × Unit)))))))))) × ((List (Int × ((List Int) × (Int × ((List Int) × Unit))))) × ((List (Int × (Int × (Int × (Int × (Int × (Bool × ((Int × ((Int × (Int × ((List Int) × Unit))) × Unit)) × Unit)))))))) × ((List (Int × ((Int × (Int × ((List Int) × Unit))) × Unit))) × Unit))))) × Unit)) : Option ((Int × Unit) × Unit) :=
  (spec_SettingsFault.F k (x.1.1, ())).bind fun y0 =>
  bif (y0.1.1 != (0 : Int)) then
  (some y0)
  else bif ((((List.length x.1.2.1) : Nat) : Int) != (2 : Int)) then
    (some (((1 : Int), ()), ()))
    else bif ((((List.length x.1.2.2.1) : Nat) : Int) != (3 : Int)) then
      (some (((1 : Int), ()), ()))
      else (spec_l14Nodes.F k x).bind fun y1 =>
        bif (y1.1.1 != (0 : Int)) then
        (some y1)
        else spec_l14Fault.l10 k (fun e4 =>
            some (e4, ())) (fun e5 =>
            (spec_l14Mails.F k e5).bind fun y6 =>
            bif (y6.1.1 != (0 : Int)) then
            (some y6)
            else bif (decide (((((List.length e5.1.2.2.2.2.1) : Nat) : Int) > (100 : Int)))) then
              (some (((2 : Int), ()), ()))
              else spec_l14Fault.l21 k (fun e9 =>
                  some (e9, ())) (fun e10 =>
                  some (((0 : Int), ()), ())) k e5.1 (0 : Int)) k x.1 (0 : Int)
def spec_l14Fault.hd : Hints := ⟨[(10, ⟨[0, 5], []⟩), (21, ⟨[0, 8], []⟩)], [(0, [0]), (1, [0, 5]), (2, []), (3, [0, 8])], [2], [0, 3, 4, 5, 6, 7, 8, 9], []⟩
def spec_l14Fault.lps (k : Nat) : List (Nat × Lp spec_l14Fault.sg.Out) := [(10, ⟨[.x kPair, .i], fun x => (fun x0 x1 => ⟨[(0, .v false [.fel kPair x0 0]), (5, .v false [.int .i64 x1])], [], []⟩) x.1 x.2.1, fun C n x => spec_l14Fault.l10 k (fun y => C .ret ((fun y0 => ⟨[(2, .v false [.int .i64 y0])], [], []⟩) y.1)) (fun y => C (.exit 0) ((fun y0 => ⟨[(0, .v false [.fel kPair y0 0])], [], []⟩) y.1)) n x.1 x.2.1⟩),
  (21, ⟨[.x kPair, .i], fun x => (fun x0 x1 => ⟨[(0, .v false [.fel kPair x0 0]), (8, .v false [.int .i64 x1])], [], []⟩) x.1 x.2.1, fun C n x => spec_l14Fault.l21 k (fun y => C .ret ((fun y0 => ⟨[(2, .v false [.int .i64 y0])], [], []⟩) y.1)) (fun _ => C (.exit 2) ⟨[], [], []⟩) n x.1 x.2.1⟩)]
theorem spec_l14Fault.loops (k : Nat) : LoopsOk spec_l14Fault.E k spec_l14Fault.hd (spec_l14Fault.lps k) (loopsOf (Go.Proofs.Tryz.f23.body.getD .skip)) := ⟨⟨fun _ _ => rfl, fun _ _ _ => by kernel_rfl, fun _ => ⟨rfl, rfl⟩⟩, ⟨⟨fun _ _ => rfl, fun _ _ _ => by kernel_rfl, fun _ => ⟨rfl, rfl⟩⟩, trivial⟩⟩
theorem spec_l14Fault.den (k : Nat) (x : Sig.In spec_l14Fault.sg.ps) : denFn spec_l14Fault.E k Go.Proofs.Tryz.f23 spec_l14Fault.sg spec_l14Fault.hd (runL k spec_l14Fault.hd (spec_l14Fault.lps k)) x = spec_l14Fault.F k x := by kernel_rfl
theorem spec_l14Fault.ok (k : Nat) : Contract Tryz.prog 23 spec_l14Fault.sg (spec_l14Fault.F k) := ok_of (E := spec_l14Fault.E) (tysOk _ _) (eqsOk _) ⟨spec_SettingsFault.ok k, spec_l14Nodes.ok k, spec_WireFault.ok k, spec_l14Mails.ok k, spec_EntryFault.ok k, trivial⟩ Tryz.func23 rfl (by kernel_rfl) (spec_l14Fault.loops k) (spec_l14Fault.den k)
def spec_l15One.sg : Sig := ⟨[.r kPair], [(.bool, .rd)]⟩
def spec_l15One.E : Env := ⟨tys, bys, [], eqs⟩
def spec_l15One.l8 {ρ : Type} (k : Nat) (c0 : (Bool × Unit) → Option ρ) (c1 : ((((Int × (Int × (Int × Unit))) × (Int × ((List ((Int × (Int × Unit)) × (Int × (Int × (Int × (Bool × (Int × (Int × Unit)))))))) × ((List ((Int × (Int × Unit)) × (Int × (Int × (Int × (Bool × (Int × (Int × Unit)))))))) × Unit)))) × ((List (Int × (Bool × (Int × (Int × ((List (Int × ((Int × (Int × ((List Int) × Unit))) × Unit))) × (Int × (Int × (Int × (Int × Unit)))))))))) × ((List (Int × ((List Int) × (Int × ((List Int) × Unit))))) × ((List (Int × (Int × (Int × (Int × (Int × (Bool × ((Int × ((Int × (Int × ((List Int) × Unit))) × Unit)) × Unit)))))))) × ((List (Int × ((Int × (Int × ((List Int) × Unit))) × Unit))) × Unit))))) × (Int × (Int × (Bool × Unit)))) → Option ρ) : Nat → (((Int × (Int × (Int × Unit))) × (Int × ((List ((Int × (Int × Unit)) × (Int × (Int × (Int × (Bool × (Int × (Int × Unit)))))))) × ((List ((Int × (Int × Unit)) × (Int × (Int × (Int × (Bool × (Int × (Int × Unit)))))))) × Unit)))) × ((List (Int × (Bool × (Int × (Int × ((List (Int × ((Int × (Int × ((List Int) × Unit))) × Unit))) × (Int × (Int × (Int × (Int × Unit)))))))))) × ((List (Int × ((List Int) × (Int × ((List Int) × Unit))))) × ((List (Int × (Int × (Int × (Int × (Int × (Bool × ((Int × ((Int × (Int × ((List Int) × Unit))) × Unit)) × Unit)))))))) × ((List (Int × ((Int × (Int × ((List Int) × Unit))) × Unit))) × Unit))))) → Int → Int → Bool → Int → Option ρ
  | 0 => fun _ _ _ _ _ => none
  | n + 1 => fun x0 x1 x2 x3 x4 => 
    bif (decide ((x4 < (((List.length x0.2.2.1) : Nat) : Int)))) then
    (bif (Go.Dn.inB x2 (((List.length x0.2.1) : Nat) : Int)) then
      (Go.Dn.share (List.getD x0.2.1 (Int.toNat x2) ((0 : Int), (false, ((0 : Int), ((0 : Int), (([] : List (Int × ((Int × (Int × ((List Int) × Unit))) × Unit))), ((0 : Int), ((0 : Int), ((0 : Int), ((0 : Int), ())))))))))) fun s1 =>
        bif (Go.Dn.inB x4 (((List.length x0.2.2.1) : Nat) : Int)) then
        (Go.Dn.share (List.getD x0.2.2.1 (Int.toNat x4) ((0 : Int), (([] : List Int), ((0 : Int), (([] : List Int), ()))))) fun s2 =>
          bif (decide ((s1.2.2.2.1 > s2.1))) then
          (c0 (false, ()))
          else bif x3 then
            (bif (Go.Dn.inB x2 (((List.length x0.2.1) : Nat) : Int)) then
              (Go.Dn.share (List.getD x0.2.1 (Int.toNat x2) ((0 : Int), (false, ((0 : Int), ((0 : Int), (([] : List (Int × ((Int × (Int × ((List Int) × Unit))) × Unit))), ((0 : Int), ((0 : Int), ((0 : Int), ((0 : Int), ())))))))))) fun s3 =>
                bif (Go.Dn.inB x4 (((List.length x0.2.2.1) : Nat) : Int)) then
                (Go.Dn.share (List.getD x0.2.2.1 (Int.toNat x4) ((0 : Int), (([] : List Int), ((0 : Int), (([] : List Int), ()))))) fun s4 =>
                  spec_l15One.l8 k c0 c1 n x0 x1 x2 (s3.2.2.2.1 == s4.1) (IntKind.wrap .i64 (x4 + (1 : Int))))
                else none)
              else none)
            else spec_l15One.l8 k c0 c1 n x0 x1 x2 false (IntKind.wrap .i64 (x4 + (1 : Int))))
        else none)
      else none)
    else c1 (x0, x1, x2, x3, ())
def spec_l15One.l3 {ρ : Type} (k : Nat) (c0 : (Bool × Unit) → Option ρ) (c1 : (Int × Unit) → Option ρ) : Nat → (((Int × (Int × (Int × Unit))) × (Int × ((List ((Int × (Int × Unit)) × (Int × (Int × (Int × (Bool × (Int × (Int × Unit)))))))) × ((List ((Int × (Int × Unit)) × (Int × (Int × (Int × (Bool × (Int × (Int × Unit)))))))) × Unit)))) × ((List (Int × (Bool × (Int × (Int × ((List (Int × ((Int × (Int × ((List Int) × Unit))) × Unit))) × (Int × (Int × (Int × (Int × Unit)))))))))) × ((List (Int × ((List Int) × (Int × ((List Int) × Unit))))) × ((List (Int × (Int × (Int × (Int × (Int × (Bool × ((Int × ((Int × (Int × ((List Int) × Unit))) × Unit)) × Unit)))))))) × ((List (Int × ((Int × (Int × ((List Int) × Unit))) × Unit))) × Unit))))) → Int → Int → Option ρ
  | 0 => fun _ _ _ => none
  | n + 1 => fun x0 x1 x2 => 
    bif (decide ((x2 < (2 : Int)))) then
    (bif (Go.Dn.inB x2 (((List.length x0.2.1) : Nat) : Int)) then
      (Go.Dn.share (List.getD x0.2.1 (Int.toNat x2) ((0 : Int), (false, ((0 : Int), ((0 : Int), (([] : List (Int × ((Int × (Int × ((List Int) × Unit))) × Unit))), ((0 : Int), ((0 : Int), ((0 : Int), ((0 : Int), ())))))))))) fun s0 =>
        bif (s0.2.2.1 != (1 : Int)) then
        (spec_l15One.l3 k c0 c1 n x0 x1 (IntKind.wrap .i64 (x2 + (1 : Int))))
        else spec_l15One.l8 k (fun e5 =>
            c0 (e5.1, ())) (fun e6 =>
            bif e6.2.2.2.1 then
            (spec_l15One.l3 k c0 c1 n e6.1 (IntKind.wrap .i64 (e6.2.1 + (1 : Int))) (IntKind.wrap .i64 (e6.2.2.1 + (1 : Int))))
            else spec_l15One.l3 k c0 c1 n e6.1 e6.2.1 (IntKind.wrap .i64 (e6.2.2.1 + (1 : Int)))) k x0 x1 x2 true (0 : Int))
      else none)
    else c1 (x1, ())
def spec_l15One.F (k : Nat) (x : ((((Int × (Int × (Int × Unit))) × (Int × ((List ((Int × (Int × Unit)) × (Int × (Int × (Int × (Bool × (Int × (Int × Unit)))))))) × ((List ((Int × (Int × Unit)) × (Int × (Int × (Int × (Bool × (Int × (Int × Unit)))))))) × Unit)))) × ((List (Int × (Bool × (Int × (Int × ((List (Int × ((Int × (Int × ((List Int) × Unit))) × Unit))) × (Int × (Int × (Int × (Int × Unit)))))))))) × ((List (Int × ((List Int) × (Int × ((List Int) × Unit))))) × ((List (Int × (Int × (Int × (Int × (Int × (Bool × ((Int × ((Int × (Int × ((List Int) × Unit))) × Unit)) × Unit)))))))) × ((List (Int × ((Int × (Int × ((List Int) × Unit))) × Unit))) × Unit))))) × Unit)) : Option ((Bool × Unit) × Unit) :=
  spec_l15One.l3 k (fun e7 =>
    some (e7, ())) (fun e8 =>
    some (((decide ((e8.1 ≤ (1 : Int)))), ()), ())) k x.1 (0 : Int) (0 : Int)
def spec_l15One.hd : Hints := ⟨[(3, ⟨[0, 3, 4], []⟩), (8, ⟨[0, 3, 4, 5, 6], []⟩)], [(0, [3]), (1, [0, 3, 4]), (2, [0, 3, 4, 5]), (3, [0, 3, 4, 5, 6])], [2], [0, 3, 4, 5, 6], [(10, [0, 1, 3, 7, 0, 31, 63, 127, 0, 256, 768, 1792, 0, 7936, 16128, 32512, 65535]), (12, [0, 1, 3, 7, 15, 31, 3, 127, 255, 511, 3, 1027, 3075, 7171, 3, 31747, 64515, 130051, 262143, 524287, 1048575])]⟩
def spec_l15One.lps (k : Nat) : List (Nat × Lp spec_l15One.sg.Out) := [(8, ⟨[.x kPair, .i, .i, .b, .i], fun x => (fun x0 x1 x2 x3 x4 => ⟨[(0, .v false [.fel kPair x0 0]), (3, .v false [.int .i64 x1]), (4, .v false [.int .i64 x2]), (5, .v false [.bool x3]), (6, .v false [.int .i64 x4])], [], []⟩) x.1 x.2.1 x.2.2.1 x.2.2.2.1 x.2.2.2.2.1, fun C n x => spec_l15One.l8 k (fun y => C .ret ((fun y0 => ⟨[(2, .v false [.bool y0])], [], []⟩) y.1)) (fun y => C (.exit 2) ((fun y0 y1 y2 y3 => ⟨[(0, .v false [.fel kPair y0 0]), (3, .v false [.int .i64 y1]), (4, .v false [.int .i64 y2]), (5, .v false [.bool y3])], [], []⟩) y.1 y.2.1 y.2.2.1 y.2.2.2.1)) n x.1 x.2.1 x.2.2.1 x.2.2.2.1 x.2.2.2.2.1⟩),
  (3, ⟨[.x kPair, .i, .i], fun x => (fun x0 x1 x2 => ⟨[(0, .v false [.fel kPair x0 0]), (3, .v false [.int .i64 x1]), (4, .v false [.int .i64 x2])], [], []⟩) x.1 x.2.1 x.2.2.1, fun C n x => spec_l15One.l3 k (fun y => C .ret ((fun y0 => ⟨[(2, .v false [.bool y0])], [], []⟩) y.1)) (fun y => C (.exit 0) ((fun y0 => ⟨[(3, .v false [.int .i64 y0])], [], []⟩) y.1)) n x.1 x.2.1 x.2.2.1⟩)]
theorem spec_l15One.loops (k : Nat) : LoopsOk spec_l15One.E k spec_l15One.hd (spec_l15One.lps k) (loopsOf (Go.Proofs.Tryz.f24.body.getD .skip)) := ⟨⟨fun _ _ => rfl, fun _ _ _ => by kernel_rfl, fun _ => ⟨rfl, rfl⟩⟩, ⟨⟨fun _ _ => rfl, fun _ _ _ => by kernel_rfl, fun _ => ⟨rfl, rfl⟩⟩, trivial⟩⟩
theorem spec_l15One.den (k : Nat) (x : Sig.In spec_l15One.sg.ps) : denFn spec_l15One.E k Go.Proofs.Tryz.f24 spec_l15One.sg spec_l15One.hd (runL k spec_l15One.hd (spec_l15One.lps k)) x = spec_l15One.F k x := by kernel_rfl
theorem spec_l15One.ok (k : Nat) : Contract Tryz.prog 24 spec_l15One.sg (spec_l15One.F k) := ok_of (E := spec_l15One.E) (tysOk _ _) (eqsOk _) trivial Tryz.func24 rfl (by kernel_rfl) (spec_l15One.loops k) (spec_l15One.den k)
def spec_OneActive.sg : Sig := ⟨[.b kPair], [(.bool, .rd)]⟩
def spec_OneActive.E : Env := ⟨tys, bys, [(23, ⟨spec_l14Fault.sg, spec_l14Fault.F⟩), (24, ⟨spec_l15One.sg, spec_l15One.F⟩)], eqs⟩
def spec_OneActive.F (k : Nat) (x : ((((Int × (Int × (Int × Unit))) × (Int × ((List ((Int × (Int × Unit)) × (Int × (Int × (Int × (Bool × (Int × (Int × Unit)))))))) × ((List ((Int × (Int × Unit)) × (Int × (Int × (Int × (Bool × (Int × (Int × Unit)))))))) × Unit)))) × ((List (Int × (Bool × (Int × (Int × ((List (Int × ((Int × (Int × ((List Int) × Unit))) × Unit))) × (Int × (Int × (Int × (Int × Unit)))))))))) × ((List (Int × ((List Int) × (Int × ((List Int) × Unit))))) × ((List (Int × (Int × (Int × (Int × (Int × (Bool × ((Int × ((Int × (Int × ((List Int) × Unit))) × Unit)) × Unit)))))))) × ((List (Int × ((Int × (Int × ((List Int) × Unit))) × Unit))) × Unit))))) × Unit)) : Option ((Bool × Unit) × Unit) :=
  (spec_l14Fault.F k x).bind fun y0 =>
  bif (y0.1.1 == (0 : Int)) then
  ((spec_l15One.F k x).bind fun y1 =>
    some y1)
  else some ((false, ()), ())
def spec_OneActive.hd : Hints := ⟨[], [], [2], [0, 1], []⟩
def spec_OneActive.lps (k : Nat) : List (Nat × Lp spec_OneActive.sg.Out) := []
theorem spec_OneActive.loops (k : Nat) : LoopsOk spec_OneActive.E k spec_OneActive.hd (spec_OneActive.lps k) (loopsOf (Go.Proofs.Tryz.f8.body.getD .skip)) := trivial
theorem spec_OneActive.den (k : Nat) (x : Sig.In spec_OneActive.sg.ps) : denFn spec_OneActive.E k Go.Proofs.Tryz.f8 spec_OneActive.sg spec_OneActive.hd (runL k spec_OneActive.hd (spec_OneActive.lps k)) x = spec_OneActive.F k x := by kernel_rfl
theorem spec_OneActive.ok (k : Nat) : Contract Tryz.prog 8 spec_OneActive.sg (spec_OneActive.F k) := ok_of (E := spec_OneActive.E) (tysOk _ _) (eqsOk _) ⟨spec_l14Fault.ok k, spec_l15One.ok k, trivial⟩ Tryz.func8 rfl (by kernel_rfl) (spec_OneActive.loops k) (spec_OneActive.den k)
def laws_toConfig.sg : Sig := ⟨[.b kConfig], [(kConfig, .rd)]⟩
def laws_toConfig.E : Env := ⟨tys, bys, [], eqs⟩
def laws_toConfig.F (k : Nat) (x : ((Int × (Int × (Int × Unit))) × Unit)) : Option (((Int × (Int × (Int × Unit))) × Unit) × Unit) :=
  some (x, ())
def laws_toConfig.hd : Hints := ⟨[], [], [2], [0, 1, 2, 3], []⟩
def laws_toConfig.lps (k : Nat) : List (Nat × Lp laws_toConfig.sg.Out) := []
theorem laws_toConfig.loops (k : Nat) : LoopsOk laws_toConfig.E k laws_toConfig.hd (laws_toConfig.lps k) (loopsOf (Go.Proofs.Tryz.f55.body.getD .skip)) := trivial
theorem laws_toConfig.den (k : Nat) (x : Sig.In laws_toConfig.sg.ps) : denFn laws_toConfig.E k Go.Proofs.Tryz.f55 laws_toConfig.sg laws_toConfig.hd (runL k laws_toConfig.hd (laws_toConfig.lps k)) x = laws_toConfig.F k x := by kernel_rfl
theorem laws_toConfig.ok (k : Nat) : Contract Tryz.prog 55 laws_toConfig.sg (laws_toConfig.F k) := ok_of (E := laws_toConfig.E) (tysOk _ _) (eqsOk _) trivial Tryz.func55 rfl (by kernel_rfl) (laws_toConfig.loops k) (laws_toConfig.den k)
def laws_toPrefix.sg : Sig := ⟨[.b kPrefix], [(kPrefix, .rd)]⟩
def laws_toPrefix.E : Env := ⟨tys, bys, [], eqs⟩
def laws_toPrefix.F (k : Nat) (x : ((Int × (Int × Unit)) × Unit)) : Option (((Int × (Int × Unit)) × Unit) × Unit) :=
  some (x, ())
def laws_toPrefix.hd : Hints := ⟨[], [], [2], [0, 1, 2, 3], []⟩
def laws_toPrefix.lps (k : Nat) : List (Nat × Lp laws_toPrefix.sg.Out) := []
theorem laws_toPrefix.loops (k : Nat) : LoopsOk laws_toPrefix.E k laws_toPrefix.hd (laws_toPrefix.lps k) (loopsOf (Go.Proofs.Tryz.f121.body.getD .skip)) := trivial
theorem laws_toPrefix.den (k : Nat) (x : Sig.In laws_toPrefix.sg.ps) : denFn laws_toPrefix.E k Go.Proofs.Tryz.f121 laws_toPrefix.sg laws_toPrefix.hd (runL k laws_toPrefix.hd (laws_toPrefix.lps k)) x = laws_toPrefix.F k x := by kernel_rfl
theorem laws_toPrefix.ok (k : Nat) : Contract Tryz.prog 121 laws_toPrefix.sg (laws_toPrefix.F k) := ok_of (E := laws_toPrefix.E) (tysOk _ _) (eqsOk _) trivial Tryz.func121 rfl (by kernel_rfl) (laws_toPrefix.loops k) (laws_toPrefix.den k)
def laws_toRule.sg : Sig := ⟨[.b kRule], [(kRule, .rd)]⟩
def laws_toRule.E : Env := ⟨tys, bys, [(121, ⟨laws_toPrefix.sg, laws_toPrefix.F⟩)], eqs⟩
def laws_toRule.F (k : Nat) (x : (((Int × (Int × Unit)) × (Int × (Int × (Int × (Bool × (Int × (Int × Unit))))))) × Unit)) : Option ((((Int × (Int × Unit)) × (Int × (Int × (Int × (Bool × (Int × (Int × Unit))))))) × Unit) × Unit) :=
  (laws_toPrefix.F k (x.1.1, ())).bind fun y0 =>
  some (((y0.1.1, x.1.2), ()), ())
def laws_toRule.hd : Hints := ⟨[], [], [2], [0, 1, 2, 3], []⟩
def laws_toRule.lps (k : Nat) : List (Nat × Lp laws_toRule.sg.Out) := []
theorem laws_toRule.loops (k : Nat) : LoopsOk laws_toRule.E k laws_toRule.hd (laws_toRule.lps k) (loopsOf (Go.Proofs.Tryz.f97.body.getD .skip)) := trivial
theorem laws_toRule.den (k : Nat) (x : Sig.In laws_toRule.sg.ps) : denFn laws_toRule.E k Go.Proofs.Tryz.f97 laws_toRule.sg laws_toRule.hd (runL k laws_toRule.hd (laws_toRule.lps k)) x = laws_toRule.F k x := by kernel_rfl
theorem laws_toRule.ok (k : Nat) : Contract Tryz.prog 97 laws_toRule.sg (laws_toRule.F k) := ok_of (E := laws_toRule.E) (tysOk _ _) (eqsOk _) ⟨laws_toPrefix.ok k, trivial⟩ Tryz.func97 rfl (by kernel_rfl) (laws_toRule.loops k) (laws_toRule.den k)
def laws_toRuleS.sg : Sig := ⟨[.b (.sl kRule)], [((.sl kRule), .dp)]⟩
def laws_toRuleS.E : Env := ⟨tys, bys, [(97, ⟨laws_toRule.sg, laws_toRule.F⟩)], eqs⟩
def laws_toRuleS.l3 {ρ : Type} (k : Nat) (c0 : (List ((Int × (Int × Unit)) × (Int × (Int × (Int × (Bool × (Int × (Int × Unit))))))) × Unit) → Option ρ) : Nat → List ((Int × (Int × Unit)) × (Int × (Int × (Int × (Bool × (Int × (Int × Unit))))))) → Int → List ((Int × (Int × Unit)) × (Int × (Int × (Int × (Bool × (Int × (Int × Unit))))))) → Option ρ
  | 0 => fun _ _ _ => none
  | n + 1 => fun x0 x1 x2 => 
    bif (decide ((x1 < (((List.length x0) : Nat) : Int)))) then
    (bif (Go.Dn.inB x1 (((List.length x0) : Nat) : Int)) then
      (Go.Dn.share (List.getD x0 (Int.toNat x1) (((0 : Int), ((0 : Int), ())), ((0 : Int), ((0 : Int), ((0 : Int), (false, ((0 : Int), ((0 : Int), ())))))))) fun s0 =>
        (laws_toRule.F k (s0, ())).bind fun y1 =>
        bif (Go.Dn.inB x1 (((List.length x2) : Nat) : Int)) then
        (Go.Dn.share (List.set x2 (Int.toNat x1) (y1.1.1.1, y1.1.1.2.1, y1.1.1.2.2.1, y1.1.1.2.2.2.1, y1.1.1.2.2.2.2.1, y1.1.1.2.2.2.2.2.1, y1.1.1.2.2.2.2.2.2.1, (List.getD x2 (Int.toNat x1) (((0 : Int), ((0 : Int), ())), ((0 : Int), ((0 : Int), ((0 : Int), (false, ((0 : Int), ((0 : Int), ())))))))).2.2.2.2.2.2.2)) fun s2 =>
          laws_toRuleS.l3 k c0 n x0 (IntKind.wrap .i64 (x1 + (1 : Int))) s2)
        else none)
      else none)
    else c0 (x2, ())
def laws_toRuleS.F (k : Nat) (x : ((List ((Int × (Int × Unit)) × (Int × (Int × (Int × (Bool × (Int × (Int × Unit)))))))) × Unit)) : Option (((List ((Int × (Int × Unit)) × (Int × (Int × (Int × (Bool × (Int × (Int × Unit)))))))) × Unit) × Unit) :=
  bif (decide (((((List.length x.1) : Nat) : Int) ≤ (((List.length x.1) : Nat) : Int)))) then
  (bif (Go.Dn.roomy (Int.toNat (((List.length x.1) : Nat) : Int)) 64) then
    (laws_toRuleS.l3 k (fun e3 =>
        some (e3, ())) k x.1 (0 : Int) (List.replicate (Int.toNat (((List.length x.1) : Nat) : Int)) (((0 : Int), ((0 : Int), ())), ((0 : Int), ((0 : Int), ((0 : Int), (false, ((0 : Int), ((0 : Int), ())))))))))
    else none)
  else none
def laws_toRuleS.hd : Hints := ⟨[(3, ⟨[0, 3, 4], []⟩)], [(0, [3]), (1, [0, 3, 4])], [2], [0, 3, 4], []⟩
def laws_toRuleS.lps (k : Nat) : List (Nat × Lp laws_toRuleS.sg.Out) := [(3, ⟨[.l kRule, .i, .l kRule], fun x => (fun x0 x1 x2 => ⟨[(0, .v false [.fz kRule x0]), (3, .v false [.arr 0]), (4, .v false [.int .i64 x1])], [(0, .arr kRule true false x2)], []⟩) x.1 x.2.1 x.2.2.1, fun C n x => laws_toRuleS.l3 k (fun y => C (.exit 0) ((fun y0 => ⟨[(3, .v false [.arr 0])], [(0, .arr kRule true false y0)], []⟩) y.1)) n x.1 x.2.1 x.2.2.1⟩)]
theorem laws_toRuleS.loops (k : Nat) : LoopsOk laws_toRuleS.E k laws_toRuleS.hd (laws_toRuleS.lps k) (loopsOf (Go.Proofs.Tryz.f56.body.getD .skip)) := ⟨⟨fun _ _ => rfl, fun _ _ _ => by kernel_rfl, fun _ => ⟨rfl, rfl⟩⟩, trivial⟩
theorem laws_toRuleS.den (k : Nat) (x : Sig.In laws_toRuleS.sg.ps) : denFn laws_toRuleS.E k Go.Proofs.Tryz.f56 laws_toRuleS.sg laws_toRuleS.hd (runL k laws_toRuleS.hd (laws_toRuleS.lps k)) x = laws_toRuleS.F k x := by kernel_rfl
theorem laws_toRuleS.ok (k : Nat) : Contract Tryz.prog 56 laws_toRuleS.sg (laws_toRuleS.F k) := ok_of (E := laws_toRuleS.E) (tysOk _ _) (eqsOk _) ⟨laws_toRule.ok k, trivial⟩ Tryz.func56 rfl (by kernel_rfl) (laws_toRuleS.loops k) (laws_toRuleS.den k)
def laws_toSettings.sg : Sig := ⟨[.b kSettings], [(kSettings, .dp)]⟩
def laws_toSettings.E : Env := ⟨tys, bys, [(55, ⟨laws_toConfig.sg, laws_toConfig.F⟩), (56, ⟨laws_toRuleS.sg, laws_toRuleS.F⟩)], eqs⟩
def laws_toSettings.F (k : Nat) (x : (((Int × (Int × (Int × Unit))) × (Int × ((List ((Int × (Int × Unit)) × (Int × (Int × (Int × (Bool × (Int × (Int × Unit)))))))) × ((List ((Int × (Int × Unit)) × (Int × (Int × (Int × (Bool × (Int × (Int × Unit)))))))) × Unit)))) × Unit)) : Option ((((Int × (Int × (Int × Unit))) × (Int × ((List ((Int × (Int × Unit)) × (Int × (Int × (Int × (Bool × (Int × (Int × Unit)))))))) × ((List ((Int × (Int × Unit)) × (Int × (Int × (Int × (Bool × (Int × (Int × Unit)))))))) × Unit)))) × Unit) × Unit) :=
  (laws_toConfig.F k (x.1.1, ())).bind fun y0 =>
  (laws_toRuleS.F k (x.1.2.2.1, ())).bind fun y1 =>
  (laws_toRuleS.F k x.1.2.2.2).bind fun y2 =>
  some (((y0.1.1, x.1.2.1, y1.1.1, y2.1), ()), ())
def laws_toSettings.hd : Hints := ⟨[], [], [2], [0, 1, 2, 3], []⟩
def laws_toSettings.lps (k : Nat) : List (Nat × Lp laws_toSettings.sg.Out) := []
theorem laws_toSettings.loops (k : Nat) : LoopsOk laws_toSettings.E k laws_toSettings.hd (laws_toSettings.lps k) (loopsOf (Go.Proofs.Tryz.f25.body.getD .skip)) := trivial
theorem laws_toSettings.den (k : Nat) (x : Sig.In laws_toSettings.sg.ps) : denFn laws_toSettings.E k Go.Proofs.Tryz.f25 laws_toSettings.sg laws_toSettings.hd (runL k laws_toSettings.hd (laws_toSettings.lps k)) x = laws_toSettings.F k x := by kernel_rfl
theorem laws_toSettings.ok (k : Nat) : Contract Tryz.prog 25 laws_toSettings.sg (laws_toSettings.F k) := ok_of (E := laws_toSettings.E) (tysOk _ _) (eqsOk _) ⟨laws_toConfig.ok k, laws_toRuleS.ok k, trivial⟩ Tryz.func25 rfl (by kernel_rfl) (laws_toSettings.loops k) (laws_toSettings.den k)
def laws_toByteS.sg : Sig := ⟨[.b (.sl (.int .u8))], [((.sl (.int .u8)), .dp)]⟩
def laws_toByteS.E : Env := ⟨tys, bys, [], eqs⟩
def laws_toByteS.l3 {ρ : Type} (k : Nat) (c0 : (List Int × Unit) → Option ρ) : Nat → List Int → Int → List Int → Option ρ
  | 0 => fun _ _ _ => none
  | n + 1 => fun x0 x1 x2 => 
    bif (decide ((x1 < (((List.length x0) : Nat) : Int)))) then
    (bif (Go.Dn.inB x1 (((List.length x0) : Nat) : Int)) then
      (Go.Dn.share (List.getD x0 (Int.toNat x1) (0 : Int)) fun s0 =>
        bif (Go.Dn.inB x1 (((List.length x2) : Nat) : Int)) then
        (Go.Dn.share (List.set x2 (Int.toNat x1) s0) fun s1 =>
          laws_toByteS.l3 k c0 n x0 (IntKind.wrap .i64 (x1 + (1 : Int))) s1)
        else none)
      else none)
    else c0 (x2, ())
def laws_toByteS.F (k : Nat) (x : ((List Int) × Unit)) : Option (((List Int) × Unit) × Unit) :=
  bif (decide (((((List.length x.1) : Nat) : Int) ≤ (((List.length x.1) : Nat) : Int)))) then
  (bif (Go.Dn.roomy (Int.toNat (((List.length x.1) : Nat) : Int)) 1) then
    (laws_toByteS.l3 k (fun e2 =>
        some (e2, ())) k x.1 (0 : Int) (List.replicate (Int.toNat (((List.length x.1) : Nat) : Int)) (0 : Int)))
    else none)
  else none
def laws_toByteS.hd : Hints := ⟨[(3, ⟨[0, 3, 4], []⟩)], [(0, [3]), (1, [0, 3, 4])], [2], [0, 3, 4], []⟩
def laws_toByteS.lps (k : Nat) : List (Nat × Lp laws_toByteS.sg.Out) := [(3, ⟨[.l (.int .u8), .i, .l (.int .u8)], fun x => (fun x0 x1 x2 => ⟨[(0, .v false [.fz (.int .u8) x0]), (3, .v false [.arr 0]), (4, .v false [.int .i64 x1])], [(0, .arr (.int .u8) true false x2)], []⟩) x.1 x.2.1 x.2.2.1, fun C n x => laws_toByteS.l3 k (fun y => C (.exit 0) ((fun y0 => ⟨[(3, .v false [.arr 0])], [(0, .arr (.int .u8) true false y0)], []⟩) y.1)) n x.1 x.2.1 x.2.2.1⟩)]
theorem laws_toByteS.loops (k : Nat) : LoopsOk laws_toByteS.E k laws_toByteS.hd (laws_toByteS.lps k) (loopsOf (Go.Proofs.Tryz.f98.body.getD .skip)) := ⟨⟨fun _ _ => rfl, fun _ _ _ => by kernel_rfl, fun _ => ⟨rfl, rfl⟩⟩, trivial⟩
theorem laws_toByteS.den (k : Nat) (x : Sig.In laws_toByteS.sg.ps) : denFn laws_toByteS.E k Go.Proofs.Tryz.f98 laws_toByteS.sg laws_toByteS.hd (runL k laws_toByteS.hd (laws_toByteS.lps k)) x = laws_toByteS.F k x := by kernel_rfl
theorem laws_toByteS.ok (k : Nat) : Contract Tryz.prog 98 laws_toByteS.sg (laws_toByteS.F k) := ok_of (E := laws_toByteS.E) (tysOk _ _) (eqsOk _) trivial Tryz.func98 rfl (by kernel_rfl) (laws_toByteS.loops k) (laws_toByteS.den k)
def laws_toEvent.sg : Sig := ⟨[.b kEvent], [(kEvent, .dp)]⟩
def laws_toEvent.E : Env := ⟨tys, bys, [(98, ⟨laws_toByteS.sg, laws_toByteS.F⟩)], eqs⟩
def laws_toEvent.F (k : Nat) (x : ((Int × (Int × ((List Int) × Unit))) × Unit)) : Option (((Int × (Int × ((List Int) × Unit))) × Unit) × Unit) :=
  (laws_toByteS.F k x.1.2.2).bind fun y0 =>
  some (((x.1.1, x.1.2.1, y0.1), ()), ())
def laws_toEvent.hd : Hints := ⟨[], [], [2], [0, 1, 2, 3], []⟩
def laws_toEvent.lps (k : Nat) : List (Nat × Lp laws_toEvent.sg.Out) := []
theorem laws_toEvent.loops (k : Nat) : LoopsOk laws_toEvent.E k laws_toEvent.hd (laws_toEvent.lps k) (loopsOf (Go.Proofs.Tryz.f99.body.getD .skip)) := trivial
theorem laws_toEvent.den (k : Nat) (x : Sig.In laws_toEvent.sg.ps) : denFn laws_toEvent.E k Go.Proofs.Tryz.f99 laws_toEvent.sg laws_toEvent.hd (runL k laws_toEvent.hd (laws_toEvent.lps k)) x = laws_toEvent.F k x := by kernel_rfl
theorem laws_toEvent.ok (k : Nat) : Contract Tryz.prog 99 laws_toEvent.sg (laws_toEvent.F k) := ok_of (E := laws_toEvent.E) (tysOk _ _) (eqsOk _) ⟨laws_toByteS.ok k, trivial⟩ Tryz.func99 rfl (by kernel_rfl) (laws_toEvent.loops k) (laws_toEvent.den k)
def laws_toEntry.sg : Sig := ⟨[.b kEntry], [(kEntry, .dp)]⟩
def laws_toEntry.E : Env := ⟨tys, bys, [(99, ⟨laws_toEvent.sg, laws_toEvent.F⟩)], eqs⟩
def laws_toEntry.F (k : Nat) (x : ((Int × ((Int × (Int × ((List Int) × Unit))) × Unit)) × Unit)) : Option (((Int × ((Int × (Int × ((List Int) × Unit))) × Unit)) × Unit) × Unit) :=
  (laws_toEvent.F k x.1.2).bind fun y0 =>
  some (((x.1.1, y0.1), ()), ())
def laws_toEntry.hd : Hints := ⟨[], [], [2], [0, 1, 2, 3], []⟩
def laws_toEntry.lps (k : Nat) : List (Nat × Lp laws_toEntry.sg.Out) := []
theorem laws_toEntry.loops (k : Nat) : LoopsOk laws_toEntry.E k laws_toEntry.hd (laws_toEntry.lps k) (loopsOf (Go.Proofs.Tryz.f60.body.getD .skip)) := trivial
theorem laws_toEntry.den (k : Nat) (x : Sig.In laws_toEntry.sg.ps) : denFn laws_toEntry.E k Go.Proofs.Tryz.f60 laws_toEntry.sg laws_toEntry.hd (runL k laws_toEntry.hd (laws_toEntry.lps k)) x = laws_toEntry.F k x := by kernel_rfl
theorem laws_toEntry.ok (k : Nat) : Contract Tryz.prog 60 laws_toEntry.sg (laws_toEntry.F k) := ok_of (E := laws_toEntry.E) (tysOk _ _) (eqsOk _) ⟨laws_toEvent.ok k, trivial⟩ Tryz.func60 rfl (by kernel_rfl) (laws_toEntry.loops k) (laws_toEntry.den k)
def laws_toEntryS.sg : Sig := ⟨[.b (.sl kEntry)], [((.sl kEntry), .dp)]⟩
def laws_toEntryS.E : Env := ⟨tys, bys, [(60, ⟨laws_toEntry.sg, laws_toEntry.F⟩)], eqs⟩
def laws_toEntryS.l3 {ρ : Type} (k : Nat) (c0 : (List (Int × ((Int × (Int × ((List Int) × Unit))) × Unit)) × Unit) → Option ρ) : Nat → List (Int × ((Int × (Int × ((List Int) × Unit))) × Unit)) → Int → List (Int × ((Int × (Int × ((List Int) × Unit))) × Unit)) → Option ρ
  | 0 => fun _ _ _ => none
  | n + 1 => fun x0 x1 x2 => 
    bif (decide ((x1 < (((List.length x0) : Nat) : Int)))) then
    (bif (Go.Dn.inB x1 (((List.length x0) : Nat) : Int)) then
      (Go.Dn.share (List.getD x0 (Int.toNat x1) ((0 : Int), (((0 : Int), ((0 : Int), (([] : List Int), ()))), ()))) fun s0 =>
        (laws_toEntry.F k (s0, ())).bind fun y1 =>
        bif (Go.Dn.inB x1 (((List.length x2) : Nat) : Int)) then
        (Go.Dn.share (List.set x2 (Int.toNat x1) (y1.1.1.1, (y1.1.1.2.1.1, y1.1.1.2.1.2.1, y1.1.1.2.1.2.2.1, (List.getD x2 (Int.toNat x1) ((0 : Int), (((0 : Int), ((0 : Int), (([] : List Int), ()))), ()))).2.1.2.2.2), (List.getD x2 (Int.toNat x1) ((0 : Int), (((0 : Int), ((0 : Int), (([] : List Int), ()))), ()))).2.2)) fun s2 =>
          laws_toEntryS.l3 k c0 n x0 (IntKind.wrap .i64 (x1 + (1 : Int))) s2)
        else none)
      else none)
    else c0 (x2, ())
def laws_toEntryS.F (k : Nat) (x : ((List (Int × ((Int × (Int × ((List Int) × Unit))) × Unit))) × Unit)) : Option (((List (Int × ((Int × (Int × ((List Int) × Unit))) × Unit))) × Unit) × Unit) :=
  bif (decide (((((List.length x.1) : Nat) : Int) ≤ (((List.length x.1) : Nat) : Int)))) then
  (bif (Go.Dn.roomy (Int.toNat (((List.length x.1) : Nat) : Int)) 48) then
    (laws_toEntryS.l3 k (fun e3 =>
        some (e3, ())) k x.1 (0 : Int) (List.replicate (Int.toNat (((List.length x.1) : Nat) : Int)) ((0 : Int), (((0 : Int), ((0 : Int), (([] : List Int), ()))), ()))))
    else none)
  else none
def laws_toEntryS.hd : Hints := ⟨[(3, ⟨[0, 3, 4], []⟩)], [(0, [3]), (1, [0, 3, 4])], [2], [0, 3, 4], []⟩
def laws_toEntryS.lps (k : Nat) : List (Nat × Lp laws_toEntryS.sg.Out) := [(3, ⟨[.l kEntry, .i, .l kEntry], fun x => (fun x0 x1 x2 => ⟨[(0, .v false [.fz kEntry x0]), (3, .v false [.arr 0]), (4, .v false [.int .i64 x1])], [(0, .arr kEntry true false x2)], []⟩) x.1 x.2.1 x.2.2.1, fun C n x => laws_toEntryS.l3 k (fun y => C (.exit 0) ((fun y0 => ⟨[(3, .v false [.arr 0])], [(0, .arr kEntry true false y0)], []⟩) y.1)) n x.1 x.2.1 x.2.2.1⟩)]
theorem laws_toEntryS.loops (k : Nat) : LoopsOk laws_toEntryS.E k laws_toEntryS.hd (laws_toEntryS.lps k) (loopsOf (Go.Proofs.Tryz.f29.body.getD .skip)) := ⟨⟨fun _ _ => rfl, fun _ _ _ => by kernel_rfl, fun _ => ⟨rfl, rfl⟩⟩, trivial⟩
theorem laws_toEntryS.den (k : Nat) (x : Sig.In laws_toEntryS.sg.ps) : denFn laws_toEntryS.E k Go.Proofs.Tryz.f29 laws_toEntryS.sg laws_toEntryS.hd (runL k laws_toEntryS.hd (laws_toEntryS.lps k)) x = laws_toEntryS.F k x := by kernel_rfl
theorem laws_toEntryS.ok (k : Nat) : Contract Tryz.prog 29 laws_toEntryS.sg (laws_toEntryS.F k) := ok_of (E := laws_toEntryS.E) (tysOk _ _) (eqsOk _) ⟨laws_toEntry.ok k, trivial⟩ Tryz.func29 rfl (by kernel_rfl) (laws_toEntryS.loops k) (laws_toEntryS.den k)
def laws_toNode.sg : Sig := ⟨[.b kNode], [(kNode, .dp)]⟩
def laws_toNode.E : Env := ⟨tys, bys, [(29, ⟨laws_toEntryS.sg, laws_toEntryS.F⟩)], eqs⟩
def laws_toNode.F (k : Nat) (x : ((Int × (Bool × (Int × (Int × ((List (Int × ((Int × (Int × ((List Int) × Unit))) × Unit))) × (Int × (Int × (Int × (Int × Unit))))))))) × Unit)) : Option (((Int × (Bool × (Int × (Int × ((List (Int × ((Int × (Int × ((List Int) × Unit))) × Unit))) × (Int × (Int × (Int × (Int × Unit))))))))) × Unit) × Unit) :=
  (laws_toEntryS.F k (x.1.2.2.2.2.1, ())).bind fun y0 =>
  some (((x.1.1, x.1.2.1, x.1.2.2.1, x.1.2.2.2.1, y0.1.1, x.1.2.2.2.2.2), ()), ())
def laws_toNode.hd : Hints := ⟨[], [], [2], [0, 1, 2, 3], []⟩
def laws_toNode.lps (k : Nat) : List (Nat × Lp laws_toNode.sg.Out) := []
theorem laws_toNode.loops (k : Nat) : LoopsOk laws_toNode.E k laws_toNode.hd (laws_toNode.lps k) (loopsOf (Go.Proofs.Tryz.f57.body.getD .skip)) := trivial
theorem laws_toNode.den (k : Nat) (x : Sig.In laws_toNode.sg.ps) : denFn laws_toNode.E k Go.Proofs.Tryz.f57 laws_toNode.sg laws_toNode.hd (runL k laws_toNode.hd (laws_toNode.lps k)) x = laws_toNode.F k x := by kernel_rfl
theorem laws_toNode.ok (k : Nat) : Contract Tryz.prog 57 laws_toNode.sg (laws_toNode.F k) := ok_of (E := laws_toNode.E) (tysOk _ _) (eqsOk _) ⟨laws_toEntryS.ok k, trivial⟩ Tryz.func57 rfl (by kernel_rfl) (laws_toNode.loops k) (laws_toNode.den k)
def laws_toNodeS.sg : Sig := ⟨[.b (.sl kNode)], [((.sl kNode), .dp)]⟩
def laws_toNodeS.E : Env := ⟨tys, bys, [(57, ⟨laws_toNode.sg, laws_toNode.F⟩)], eqs⟩
def laws_toNodeS.l3 {ρ : Type} (k : Nat) (c0 : (List (Int × (Bool × (Int × (Int × ((List (Int × ((Int × (Int × ((List Int) × Unit))) × Unit))) × (Int × (Int × (Int × (Int × Unit))))))))) × Unit) → Option ρ) : Nat → List (Int × (Bool × (Int × (Int × ((List (Int × ((Int × (Int × ((List Int) × Unit))) × Unit))) × (Int × (Int × (Int × (Int × Unit))))))))) → Int → List (Int × (Bool × (Int × (Int × ((List (Int × ((Int × (Int × ((List Int) × Unit))) × Unit))) × (Int × (Int × (Int × (Int × Unit))))))))) → Option ρ
  | 0 => fun _ _ _ => none
  | n + 1 => fun x0 x1 x2 => 
    bif (decide ((x1 < (((List.length x0) : Nat) : Int)))) then
    (bif (Go.Dn.inB x1 (((List.length x0) : Nat) : Int)) then
      (Go.Dn.share (List.getD x0 (Int.toNat x1) ((0 : Int), (false, ((0 : Int), ((0 : Int), (([] : List (Int × ((Int × (Int × ((List Int) × Unit))) × Unit))), ((0 : Int), ((0 : Int), ((0 : Int), ((0 : Int), ())))))))))) fun s0 =>
        (laws_toNode.F k (s0, ())).bind fun y1 =>
        bif (Go.Dn.inB x1 (((List.length x2) : Nat) : Int)) then
        (Go.Dn.share (List.set x2 (Int.toNat x1) (y1.1.1.1, y1.1.1.2.1, y1.1.1.2.2.1, y1.1.1.2.2.2.1, y1.1.1.2.2.2.2.1, y1.1.1.2.2.2.2.2.1, y1.1.1.2.2.2.2.2.2.1, y1.1.1.2.2.2.2.2.2.2.1, y1.1.1.2.2.2.2.2.2.2.2.1, (List.getD x2 (Int.toNat x1) ((0 : Int), (false, ((0 : Int), ((0 : Int), (([] : List (Int × ((Int × (Int × ((List Int) × Unit))) × Unit))), ((0 : Int), ((0 : Int), ((0 : Int), ((0 : Int), ())))))))))).2.2.2.2.2.2.2.2.2)) fun s2 =>
          laws_toNodeS.l3 k c0 n x0 (IntKind.wrap .i64 (x1 + (1 : Int))) s2)
        else none)
      else none)
    else c0 (x2, ())
def laws_toNodeS.F (k : Nat) (x : ((List (Int × (Bool × (Int × (Int × ((List (Int × ((Int × (Int × ((List Int) × Unit))) × Unit))) × (Int × (Int × (Int × (Int × Unit)))))))))) × Unit)) : Option (((List (Int × (Bool × (Int × (Int × ((List (Int × ((Int × (Int × ((List Int) × Unit))) × Unit))) × (Int × (Int × (Int × (Int × Unit)))))))))) × Unit) × Unit) :=
  bif (decide (((((List.length x.1) : Nat) : Int) ≤ (((List.length x.1) : Nat) : Int)))) then
  (bif (Go.Dn.roomy (Int.toNat (((List.length x.1) : Nat) : Int)) 88) then
    (laws_toNodeS.l3 k (fun e3 =>
        some (e3, ())) k x.1 (0 : Int) (List.replicate (Int.toNat (((List.length x.1) : Nat) : Int)) ((0 : Int), (false, ((0 : Int), ((0 : Int), (([] : List (Int × ((Int × (Int × ((List Int) × Unit))) × Unit))), ((0 : Int), ((0 : Int), ((0 : Int), ((0 : Int), ())))))))))))
    else none)
  else none
def laws_toNodeS.hd : Hints := ⟨[(3, ⟨[0, 3, 4], []⟩)], [(0, [3]), (1, [0, 3, 4])], [2], [0, 3, 4], []⟩
def laws_toNodeS.lps (k : Nat) : List (Nat × Lp laws_toNodeS.sg.Out) := [(3, ⟨[.l kNode, .i, .l kNode], fun x => (fun x0 x1 x2 => ⟨[(0, .v false [.fz kNode x0]), (3, .v false [.arr 0]), (4, .v false [.int .i64 x1])], [(0, .arr kNode true false x2)], []⟩) x.1 x.2.1 x.2.2.1, fun C n x => laws_toNodeS.l3 k (fun y => C (.exit 0) ((fun y0 => ⟨[(3, .v false [.arr 0])], [(0, .arr kNode true false y0)], []⟩) y.1)) n x.1 x.2.1 x.2.2.1⟩)]
theorem laws_toNodeS.loops (k : Nat) : LoopsOk laws_toNodeS.E k laws_toNodeS.hd (laws_toNodeS.lps k) (loopsOf (Go.Proofs.Tryz.f26.body.getD .skip)) := ⟨⟨fun _ _ => rfl, fun _ _ _ => by kernel_rfl, fun _ => ⟨rfl, rfl⟩⟩, trivial⟩
theorem laws_toNodeS.den (k : Nat) (x : Sig.In laws_toNodeS.sg.ps) : denFn laws_toNodeS.E k Go.Proofs.Tryz.f26 laws_toNodeS.sg laws_toNodeS.hd (runL k laws_toNodeS.hd (laws_toNodeS.lps k)) x = laws_toNodeS.F k x := by kernel_rfl
theorem laws_toNodeS.ok (k : Nat) : Contract Tryz.prog 26 laws_toNodeS.sg (laws_toNodeS.F k) := ok_of (E := laws_toNodeS.E) (tysOk _ _) (eqsOk _) ⟨laws_toNode.ok k, trivial⟩ Tryz.func26 rfl (by kernel_rfl) (laws_toNodeS.loops k) (laws_toNodeS.den k)
def laws_toWire.sg : Sig := ⟨[.b kWire], [(kWire, .dp)]⟩
def laws_toWire.E : Env := ⟨tys, bys, [(98, ⟨laws_toByteS.sg, laws_toByteS.F⟩)], eqs⟩
def laws_toWire.F (k : Nat) (x : ((Int × ((List Int) × (Int × ((List Int) × Unit)))) × Unit)) : Option (((Int × ((List Int) × (Int × ((List Int) × Unit)))) × Unit) × Unit) :=
  (laws_toByteS.F k (x.1.2.1, ())).bind fun y0 =>
  (laws_toByteS.F k x.1.2.2.2).bind fun y1 =>
  some (((x.1.1, y0.1.1, x.1.2.2.1, y1.1), ()), ())
def laws_toWire.hd : Hints := ⟨[], [], [2], [0, 1, 2, 3], []⟩
def laws_toWire.lps (k : Nat) : List (Nat × Lp laws_toWire.sg.Out) := []
theorem laws_toWire.loops (k : Nat) : LoopsOk laws_toWire.E k laws_toWire.hd (laws_toWire.lps k) (loopsOf (Go.Proofs.Tryz.f58.body.getD .skip)) := trivial
theorem laws_toWire.den (k : Nat) (x : Sig.In laws_toWire.sg.ps) : denFn laws_toWire.E k Go.Proofs.Tryz.f58 laws_toWire.sg laws_toWire.hd (runL k laws_toWire.hd (laws_toWire.lps k)) x = laws_toWire.F k x := by kernel_rfl
theorem laws_toWire.ok (k : Nat) : Contract Tryz.prog 58 laws_toWire.sg (laws_toWire.F k) := ok_of (E := laws_toWire.E) (tysOk _ _) (eqsOk _) ⟨laws_toByteS.ok k, trivial⟩ Tryz.func58 rfl (by kernel_rfl) (laws_toWire.loops k) (laws_toWire.den k)
def laws_toWireS.sg : Sig := ⟨[.b (.sl kWire)], [((.sl kWire), .dp)]⟩
def laws_toWireS.E : Env := ⟨tys, bys, [(58, ⟨laws_toWire.sg, laws_toWire.F⟩)], eqs⟩
def laws_toWireS.l3 {ρ : Type} (k : Nat) (c0 : (List (Int × ((List Int) × (Int × ((List Int) × Unit)))) × Unit) → Option ρ) : Nat → List (Int × ((List Int) × (Int × ((List Int) × Unit)))) → Int → List (Int × ((List Int) × (Int × ((List Int) × Unit)))) → Option ρ
  | 0 => fun _ _ _ => none
  | n + 1 => fun x0 x1 x2 => 
    bif (decide ((x1 < (((List.length x0) : Nat) : Int)))) then
    (bif (Go.Dn.inB x1 (((List.length x0) : Nat) : Int)) then
      (Go.Dn.share (List.getD x0 (Int.toNat x1) ((0 : Int), (([] : List Int), ((0 : Int), (([] : List Int), ()))))) fun s0 =>
        (laws_toWire.F k (s0, ())).bind fun y1 =>
        bif (Go.Dn.inB x1 (((List.length x2) : Nat) : Int)) then
        (Go.Dn.share (List.set x2 (Int.toNat x1) (y1.1.1.1, y1.1.1.2.1, y1.1.1.2.2.1, y1.1.1.2.2.2.1, (List.getD x2 (Int.toNat x1) ((0 : Int), (([] : List Int), ((0 : Int), (([] : List Int), ()))))).2.2.2.2)) fun s2 =>
          laws_toWireS.l3 k c0 n x0 (IntKind.wrap .i64 (x1 + (1 : Int))) s2)
        else none)
      else none)
    else c0 (x2, ())
def laws_toWireS.F (k : Nat) (x : ((List (Int × ((List Int) × (Int × ((List Int) × Unit))))) × Unit)) : Option (((List (Int × ((List Int) × (Int × ((List Int) × Unit))))) × Unit) × Unit) :=
  bif (decide (((((List.length x.1) : Nat) : Int) ≤ (((List.length x.1) : Nat) : Int)))) then
  (bif (Go.Dn.roomy (Int.toNat (((List.length x.1) : Nat) : Int)) 64) then
    (laws_toWireS.l3 k (fun e3 =>
        some (e3, ())) k x.1 (0 : Int) (List.replicate (Int.toNat (((List.length x.1) : Nat) : Int)) ((0 : Int), (([] : List Int), ((0 : Int), (([] : List Int), ()))))))
    else none)
  else none
def laws_toWireS.hd : Hints := ⟨[(3, ⟨[0, 3, 4], []⟩)], [(0, [3]), (1, [0, 3, 4])], [2], [0, 3, 4], []⟩
def laws_toWireS.lps (k : Nat) : List (Nat × Lp laws_toWireS.sg.Out) := [(3, ⟨[.l kWire, .i, .l kWire], fun x => (fun x0 x1 x2 => ⟨[(0, .v false [.fz kWire x0]), (3, .v false [.arr 0]), (4, .v false [.int .i64 x1])], [(0, .arr kWire true false x2)], []⟩) x.1 x.2.1 x.2.2.1, fun C n x => laws_toWireS.l3 k (fun y => C (.exit 0) ((fun y0 => ⟨[(3, .v false [.arr 0])], [(0, .arr kWire true false y0)], []⟩) y.1)) n x.1 x.2.1 x.2.2.1⟩)]
theorem laws_toWireS.loops (k : Nat) : LoopsOk laws_toWireS.E k laws_toWireS.hd (laws_toWireS.lps k) (loopsOf (Go.Proofs.Tryz.f27.body.getD .skip)) := ⟨⟨fun _ _ => rfl, fun _ _ _ => by kernel_rfl, fun _ => ⟨rfl, rfl⟩⟩, trivial⟩
theorem laws_toWireS.den (k : Nat) (x : Sig.In laws_toWireS.sg.ps) : denFn laws_toWireS.E k Go.Proofs.Tryz.f27 laws_toWireS.sg laws_toWireS.hd (runL k laws_toWireS.hd (laws_toWireS.lps k)) x = laws_toWireS.F k x := by kernel_rfl
theorem laws_toWireS.ok (k : Nat) : Contract Tryz.prog 27 laws_toWireS.sg (laws_toWireS.F k) := ok_of (E := laws_toWireS.E) (tysOk _ _) (eqsOk _) ⟨laws_toWire.ok k, trivial⟩ Tryz.func27 rfl (by kernel_rfl) (laws_toWireS.loops k) (laws_toWireS.den k)
def laws_toMail.sg : Sig := ⟨[.b kMail], [(kMail, .dp)]⟩
def laws_toMail.E : Env := ⟨tys, bys, [(60, ⟨laws_toEntry.sg, laws_toEntry.F⟩)], eqs⟩
def laws_toMail.F (k : Nat) (x : ((Int × (Int × (Int × (Int × (Int × (Bool × ((Int × ((Int × (Int × ((List Int) × Unit))) × Unit)) × Unit))))))) × Unit)) : Option (((Int × (Int × (Int × (Int × (Int × (Bool × ((Int × ((Int × (Int × ((List Int) × Unit))) × Unit)) × Unit))))))) × Unit) × Unit) :=
  (laws_toEntry.F k x.1.2.2.2.2.2.2).bind fun y0 =>
  some (((x.1.1, x.1.2.1, x.1.2.2.1, x.1.2.2.2.1, x.1.2.2.2.2.1, x.1.2.2.2.2.2.1, y0.1), ()), ())
def laws_toMail.hd : Hints := ⟨[], [], [2], [0, 1, 2, 3], []⟩
def laws_toMail.lps (k : Nat) : List (Nat × Lp laws_toMail.sg.Out) := []
theorem laws_toMail.loops (k : Nat) : LoopsOk laws_toMail.E k laws_toMail.hd (laws_toMail.lps k) (loopsOf (Go.Proofs.Tryz.f59.body.getD .skip)) := trivial
theorem laws_toMail.den (k : Nat) (x : Sig.In laws_toMail.sg.ps) : denFn laws_toMail.E k Go.Proofs.Tryz.f59 laws_toMail.sg laws_toMail.hd (runL k laws_toMail.hd (laws_toMail.lps k)) x = laws_toMail.F k x := by kernel_rfl
theorem laws_toMail.ok (k : Nat) : Contract Tryz.prog 59 laws_toMail.sg (laws_toMail.F k) := ok_of (E := laws_toMail.E) (tysOk _ _) (eqsOk _) ⟨laws_toEntry.ok k, trivial⟩ Tryz.func59 rfl (by kernel_rfl) (laws_toMail.loops k) (laws_toMail.den k)

end Go.Proofs.YtliaeahjdenlfaaGreat
