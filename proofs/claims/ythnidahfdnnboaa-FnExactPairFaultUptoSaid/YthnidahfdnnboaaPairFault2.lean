/- FnExactPairFault: for every pair of bulk at most 1048576 the law returns true and its argument reads as before; no further condition. -/
import Derived.Deep.Slices
import Derived.Carry
import Derived.ProofKit
import Derived.OpenShut
import Derived.IntWalk
import Derived.Test.YthnidahfdnnboaaProg
import Derived.KernelRfl
import Derived.Test.YthnidahfdnnboaaPairFault0
import Derived.Test.YthnidahfdnnboaaPairFault1
/- A function's begin and its end: what it does is what is said. -/
set_option linter.unusedVariables false
namespace Go.Dn

theorem give_top : ∀ (κ : K) (q : Q) (x : κ.T) (i : Nat), (κ.give q x i).2.2 ≤ i + 2 * κ.n
  | .int _, q, _, _ => by cases q <;> exact Nat.le_add_right _ _
  | .bool, q, _, _ => by cases q <;> exact Nat.le_add_right _ _
  | .str, q, _, _ => by cases q <;> exact Nat.le_add_right _ _
  | .unit, q, _, _ => by cases q <;> exact Nat.le_add_right _ _
  | .pair a b, q, x, i => by
    have h1 := give_top a q.l x.1 i
    have h2 := give_top b q.r x.2 (a.give q.l x.1 i).2.2
    simp only [K.give, K.n]; omega
  | .sl _, q, _, _ => by
    cases q
    · exact Nat.le_add_right _ _
    · exact Nat.le_refl _
    · exact Nat.le_refl _
    · exact Nat.le_add_right _ _
theorem ArgsR.len {P : Program} {Z W : CS} {w : World} : ∀ (ps : List PM) (x : Sig.In ps) (vs : List Value) (T : CS), ArgsR P Z W w ps x vs T → vs.length = ps.length
  | [], x, vs, T, h => by simp only [ArgsR] at h; rw [h]; rfl
  | .b κ :: ps, x, vs, T, h => by obtain ⟨v, us, r, rfl, _, _, h⟩ := h; simp [ArgsR.len ps x.2 r T h]
  | .r κ :: ps, x, vs, T, h => by obtain ⟨b, off, us, r, rfl, _, _, h⟩ := h; simp [ArgsR.len ps x.2 r T h]
  | .p κ i _ :: ps, x, vs, T, h => by obtain ⟨b, off, r, T1, T2, rfl, _, h, _⟩ := h; simp [ArgsR.len ps x.2 r T2 h]
  | .m κ :: ps, x, vs, T, h => by obtain ⟨v, us, r, T1, T2, rfl, _, _, h, _⟩ := h; simp [ArgsR.len ps x.2 r T2 h]
  | .c e d :: ps, x, vs, T, h => by obtain ⟨v, r, T1, T2, rfl, _, h, _⟩ := h; simp [ArgsR.len ps x.2 r T2 h]
  | .z _ :: ps, x, vs, T, h => by obtain ⟨A, r, rfl, h⟩ := h; simp [ArgsR.len ps x r T h]
  | .f a b :: ps, x, vs, T, h => by obtain ⟨v, r, rfl, _, h⟩ := h; simp [ArgsR.len ps x.2 r T h]

def X0 (P : Program) (n : Nat) (W : CS) (w : World) (Z : CS) : Cx := ⟨P, n, W, w, Z, []⟩
theorem vr_ov {P : Program} {n : Nat} {W : CS} {w0 : World} {Z0 : CS} (ov ov' : List Value) {β : Nat → Pl} {D : Nat → Prop} {Z : CS} {w : World} {c : CV} {v : Value} (h : VR ⟨P, n, W, w0, Z0, ov⟩ β D Z w c v) : VR ⟨P, n, W, w0, Z0, ov'⟩ β D Z w c v := by
  cases c <;> exact h
theorem or_ov {P : Program} {n : Nat} {W : CS} {w0 : World} {Z0 : CS} (ov ov' : List Value) {β : Nat → Pl} {D : Nat → Prop} {Z : CS} {w : World} {o : Nat} {S : CS} {b : OB} (h : OR ⟨P, n, W, w0, Z0, ov⟩ β D Z w o S b) : OR ⟨P, n, W, w0, Z0, ov'⟩ β D Z w o S b := by
  cases b with
  | box cs =>
    intro i c hi
    obtain ⟨h1, v, h2, h3⟩ := h i c hi
    exact ⟨h1, v, h2, vr_ov ov ov' h3⟩
  | arr e d fr l => cases fr <;> exact h
  | hole => exact h
  | non => trivial
  | dead => trivial

/-- What of the arguments is looked at again at the end. -/
def OVR : List PM → List Value → List Value → Prop
  | [], _, ov => ov = []
  | .p _ _ _ :: ps, v :: vs, ov => ∃ r, ov = v :: r ∧ OVR ps vs r
  | .m κ :: ps, v :: vs, ov => ∃ us r, ov = us ++ r ∧ pk κ us v ∧ us.length = κ.n ∧ OVR ps vs r
  | .b _ :: ps, _ :: vs, ov => OVR ps vs ov
  | .r _ :: ps, _ :: vs, ov => OVR ps vs ov
  | .c _ _ :: ps, _ :: vs, ov => OVR ps vs ov
  | .z _ :: ps, _ :: vs, ov => OVR ps vs ov
  | .f _ _ :: ps, _ :: vs, ov => OVR ps vs ov
  | _, [], _ => False
section
variable {P : Program} {n : Nat} {W : CS} {w : World} {Z : CS}
/-- The objects and temporaries at a function's begin. -/
theorem entryAll_sound {outs0 : List CV} {a : Act} {sl0 : Nat → DV} : ∀ (ps : List PM) (i : Nat) (x : Sig.In ps) (vs : List Value) (T : CS) (β : Nat → Pl) (D : Nat → Prop) (S : Nat → CS) (ob : Nat → OB), psOk ps = true → ArgsR P Z W w ps x vs T → T.le W → RelAt (X0 P n W w Z) β D S Z sl0 ob outs0 a w → Free (X0 P n W w Z) S Z w T → (∀ z, i * 64 ≤ z → ob z = .non) →
    ∃ β' D' S' ov, RelAt (X0 P n W w Z) β' D' S' Z sl0 (updAll ob (entryAll i ps x).2.1) outs0 a w ∧ All2 (fun s v => DR (VR (X0 P n W w Z) β' D' Z w) s.2 v) (entryAll i ps x).1 vs ∧ (entryAll i ps x).1.map (·.1) = List.range' i ps.length ∧ All2 (VR (X0 P n W w Z) β' D' Z w) (entryAll i ps x).2.2 ov ∧ OVR ps vs ov ∧
      Grew (X0 P n W w Z) β D S Z w T β' D' S' := by
  intro ps
  induction ps with
  | nil =>
    intro i x vs T β D S ob hps hA hT hr hf hn
    simp only [ArgsR] at hA
    subst hA
    exact ⟨β, D, S, [], hr, trivial, rfl, trivial, rfl, fun o d => ⟨d, rfl⟩, fun o b j s => .inl s⟩
  | cons p ps ih =>
    intro i x vs T β D S ob hps hA hT hr hf hn
    have hps2 : psOk ps = true := by unfold psOk at hps ⊢; simp only [List.all_cons, Bool.and_eq_true] at hps; exact hps.2
    -- a parameter without memory
    have plain : ∀ (v : Value) (r : List Value) (d : DV) (x2 : Sig.In ps) (T2 : CS), T2.le T → ArgsR P Z W w ps x2 r T2 → (∀ (β' : Nat → Pl) (D' : Nat → Prop), (∀ o, D o → D' o ∧ β' o = β o) → DR (VR (X0 P n W w Z) β' D' Z w) d v) → (∀ ov, OVR ps r ov → OVR (p :: ps) (v :: r) ov) →
        ∃ β' D' S' ov, RelAt (X0 P n W w Z) β' D' S' Z sl0 (updAll ob (entryAll (i + 1) ps x2).2.1) outs0 a w ∧ All2 (fun s v => DR (VR (X0 P n W w Z) β' D' Z w) s.2 v) ((i, d) :: (entryAll (i + 1) ps x2).1) (v :: r) ∧ ((i, d) :: (entryAll (i + 1) ps x2).1).map (·.1) = List.range' i (ps.length + 1) ∧ All2 (VR (X0 P n W w Z) β' D' Z w) (entryAll (i + 1) ps x2).2.2 ov ∧ OVR (p :: ps) (v :: r) ov ∧
          Grew (X0 P n W w Z) β D S Z w T β' D' S' := fun v r d x2 T2 hT2 h2 hd hov => by
      obtain ⟨β', D', S', ov, k1, k2, k3, k4, k6, k5⟩ := ih (i + 1) x2 r T2 β D S ob hps2 h2 (hT2.trans hT) hr (hf.le hT2) (fun z hz => hn z (by omega))
      refine ⟨β', D', S', ov, k1, ⟨hd β' D' k5.d, k2⟩, ?_, k4, hov ov k6, k5.d, fun o b j s => (k5.s o b j s).imp (fun h => h) (hT2 b j)⟩
      rw [List.map_cons, k3, List.range'_succ]
    -- a parameter with memory of its own
    have owned : ∀ (v : Value) (r : List Value) (d : DV) (l : List (Nat × OB)) (o1 : List CV) (u1 : List Value) (x2 : Sig.In ps) (T1 T2 : CS), Sep T T1 T2 → ArgsR P Z W w ps x2 r T2 → (∀ z ∈ l, i * 64 ≤ z.1 ∧ z.1 < (i + 1) * 64) →
        (∃ β1 D1 S1, RelAt (X0 P n W w Z) β1 D1 S1 Z sl0 (updAll ob l) outs0 a w ∧ DR (VR (X0 P n W w Z) β1 D1 Z w) d v ∧ All2 (VR (X0 P n W w Z) β1 D1 Z w) o1 u1 ∧ Grew (X0 P n W w Z) β D S Z w T1 β1 D1 S1) → (∀ ov, OVR ps r ov → OVR (p :: ps) (v :: r) (u1 ++ ov)) →
        ∃ β' D' S' ov, RelAt (X0 P n W w Z) β' D' S' Z sl0 (updAll ob (l ++ (entryAll (i + 1) ps x2).2.1)) outs0 a w ∧ All2 (fun s v => DR (VR (X0 P n W w Z) β' D' Z w) s.2 v) ((i, d) :: (entryAll (i + 1) ps x2).1) (v :: r) ∧ ((i, d) :: (entryAll (i + 1) ps x2).1).map (·.1) = List.range' i (ps.length + 1) ∧ All2 (VR (X0 P n W w Z) β' D' Z w) (o1 ++ (entryAll (i + 1) ps x2).2.2) ov ∧ OVR (p :: ps) (v :: r) ov ∧
          Grew (X0 P n W w Z) β D S Z w T β' D' S' := fun v r d l o1 u1 x2 T1 T2 hs h2 hl ⟨β1, D1, S1, q1, q2, q3, q4⟩ hov => by
      obtain ⟨β', D', S', ov, k1, k2, k3, k4, k6, k5⟩ := ih (i + 1) x2 r T2 β1 D1 S1 _ hps2 h2 (hs.r.trans hT) q1 ((hf.le hs.r).grew q4 hs.d.symm) (fun z hz => by
        rw [updAll_out _ _ _ fun x hx e => ?_]
        · exact hn z (by omega)
        · have := (hl x hx).2; omega)
      refine ⟨β', D', S', u1 ++ ov, by rw [updAll_app]; exact k1, ⟨DR.imp (fun c v h => h.grew k5) _ _ q2, k2⟩, ?_, All2.app _ _ _ _ (All2.imp (fun c v h => h.grew k5) _ _ q3) k4, hov ov k6, q4.trans k5 hs.l hs.r⟩
      rw [List.map_cons, k3, List.range'_succ]
    cases p with
    | b κ =>
      obtain ⟨v, us, r, rfl, hp, hh, h2⟩ := hA
      exact plain v r _ x.2 T (CS.le.refl _) h2 (fun β' D' _ => dr_of (cvs_rd κ .rd (.inl rfl) _ _ _ hh) (fun _ _ h => vr_noskip h) (cvs_len κ x.1) hp) fun ov h => h
    | r κ =>
      obtain ⟨b, off, us, r, rfl, hh, hc, h2⟩ := hA
      refine plain _ r _ x.2 T (CS.le.refl _) h2 (fun β' D' _ => ⟨b, off, us, by simp, hh, fun j u hj => ⟨(hc j u hj).1, .inr fun hF => ?_⟩⟩) fun ov h => h
      rcases hF with hF | hF
      · exact (hc j u hj).2 hF
      · obtain ⟨_, _, _, hb, _⟩ := heap_of_cell? (hc j u hj).1
        have := lt_of_heap hb
        exact absurd hF (by show ¬ w.heap.size ≤ b; omega)
    | p κ q q' =>
      obtain ⟨b, off, r, T1, T2, rfl, ⟨us, T', hh, hT', hc⟩, h2, hs⟩ := hA
      have gi := give_ids κ q x.1 (i * 64 + 2)
      have gt := give_top κ q x.1 (i * 64 + 2)
      have hk : 2 * κ.n + 2 ≤ 64 := by unfold psOk at hps; simp only [List.all_cons, Bool.and_eq_true] at hps; exact Nat.le_of_ble_eq_true hps.1
      have hus := H.len _ _ _ _ _ hh
      have hT1 : T1.le T := hs.l
      obtain ⟨β1, D1, S1, g1, g2, g3⟩ := give_sound κ q x.1 (i * 64 + 2) us T' β D S ob hh hr (hf.le (hT'.trans hT1)) (fun z hz => hn z.1 (by have := (gi.2 z hz).1; omega))
      let C : CS := fun b' j => b' = b ∧ off ≤ j ∧ j < off + κ.n
      have hC : ∀ b' j, C b' j → T1 b' j ∧ ¬ T' b' j ∧ b' < w.heap.size := fun b' j ⟨e, h1, h2⟩ => by
        subst e
        have hi : j - off < us.length := by omega
        have := hc (j - off) us[j - off] (by simp [hi])
        rw [show off + (j - off) = j by omega] at this
        exact ⟨this.2.1, this.2.2, this.1.lt⟩
      have hn0 : updAll ob (κ.give q x.1 (i * 64 + 2)).2.1 (i * 64) = .non := by
        rw [updAll_out _ _ _ fun z hz e => ?_]
        · exact hn _ (Nat.le_refl _)
        · have := (gi.2 z hz).1; omega
      have hnD : ∀ o, D1 o → o ≠ i * 64 := fun o d e => g1.dom o d (e ▸ hn0)
      have hfC := (hf.le ((fun b j h => hT1 b j (hC b j h).1) : C.le T)).grew g3 (fun b j c t => (hC b j c).2.1 t)
      have hnew := g1.new (i * 64) hn0 ⟨b, off, none, 0, 0, 0⟩ (.box (κ.give q x.1 (i * 64 + 2)).1) (by simp) C hfC.f hfC.b hfC.z (fun o _ => hfC.s o) (by
        intro j c hj
        obtain ⟨u, h1, h2⟩ := All2.get _ _ g2 j c hj
        have hlt : j < κ.n := by rw [← give_len κ q x.1 (i * 64 + 2)]; exact (List.getElem?_eq_some_iff.1 hj).1
        rw [upd_same]
        exact ⟨⟨rfl, by show off ≤ off + j; omega, by show off + j < off + κ.n; omega⟩, u, (hc j u h1).1, h2.mono (fun o d => ⟨.inl d, upd_ne _ _ (hnD o d)⟩) (CS.le.refl _) (Agr.refl CS.no w) (fun _ _ t => t.elim) (fun _ _ t => t.elim)⟩)
      have hvr : VR (X0 P n W w Z) (upd β1 (i * 64) ⟨b, off, none, 0, 0, 0⟩) (fun o => D1 o ∨ o = i * 64) Z w (.box (i * 64) 0) (.pointer (some ⟨b, off, none⟩)) := ⟨.inr rfl, by rw [upd_same]; rfl⟩
      have hdr : DR (VR (X0 P n W w Z) (upd β1 (i * 64) ⟨b, off, none, 0, 0, 0⟩) (fun o => D1 o ∨ o = i * 64) Z w) (.v false [.box (i * 64) 0]) (.pointer (some ⟨b, off, none⟩)) := hvr
      refine owned _ r (.v false [.box (i * 64) 0]) ((i * 64, .box (κ.give q x.1 (i * 64 + 2)).1) :: (κ.give q x.1 (i * 64 + 2)).2.1) [.box (i * 64) 0] [_] x.2 T1 T2 hs h2 (fun z hz => ?_) ⟨_, _, upd S1 (i * 64) C, ?_, hdr, ⟨hvr, trivial⟩, fun o d => ?_, fun o b' j s => ?_⟩ fun ov h => ⟨ov, rfl, h⟩
      · rcases List.mem_cons.1 hz with rfl | hz
        · exact ⟨Nat.le_refl _, by show i * 64 < (i + 1) * 64; omega⟩
        · have := gi.2 z hz; omega
      · have e : updAll ob ((i * 64, .box (κ.give q x.1 (i * 64 + 2)).1) :: (κ.give q x.1 (i * 64 + 2)).2.1) = upd (updAll ob (κ.give q x.1 (i * 64 + 2)).2.1) (i * 64) (.box (κ.give q x.1 (i * 64 + 2)).1) :=
          upd_updAll _ _ _ _ fun z hz e => by have := (gi.2 z hz).1; omega
        rw [e]; exact hnew
      · have := g3.d o d
        exact ⟨.inl this.1, (upd_ne _ _ (hnD o this.1)).trans this.2⟩
      · by_cases e : o = i * 64
        · subst e; rw [upd_same] at s; exact .inr (hC b' j s).1
        · rw [upd_ne _ _ e] at s
          exact (g3.s o b' j s).imp (fun h => h) (hT' b' j)
    | m κ =>
      obtain ⟨v, us, r, T1, T2, rfl, hp, hh, h2, hs⟩ := hA
      have gi := give_ids κ .dp x.1 (i * 64)
      have gt := give_top κ .dp x.1 (i * 64)
      have hk : 2 * κ.n ≤ 64 := by unfold psOk at hps; simp only [List.all_cons, Bool.and_eq_true] at hps; exact Nat.le_of_ble_eq_true hps.1
      obtain ⟨β1, D1, S1, g1, g2, g3⟩ := give_sound κ .dp x.1 (i * 64) us T1 β D S ob hh hr (hf.le hs.l) (fun z hz => hn z.1 (gi.2 z hz).1)
      exact owned v r _ _ _ us x.2 T1 T2 hs h2 (fun z hz => by have := gi.2 z hz; omega) ⟨β1, D1, S1, g1, dr_of g2 (fun _ _ h => vr_noskip h) (give_len κ .dp x.1 _) hp, g2, g3⟩ fun ov h => ⟨us, ov, rfl, hp, H.len _ _ _ _ _ hh, h⟩
    | c e d =>
      obtain ⟨v, r, T1, T2, rfl, hh, h2, hs⟩ := hA
      have hh' : ∃ A c, [v] = [Value.slice A x.1.length c] ∧ OwnSl w e.n (HL (H Z w (bif d then .dp else .rd) e) x.1) A x.1.length c T1 := by
        cases d <;> exact hh
      obtain ⟨A, c, hv, hO⟩ := hh'
      cases hv
      have hn0 := hn (i * 64) (Nat.le_refl _)
      have hnD : ∀ o, D o → o ≠ i * 64 := fun o dd e => hr.dom o dd (e ▸ hn0)
      have hf1 := hf.le hs.l
      have hvr : VR (X0 P n W w Z) (upd β (i * 64) ⟨0, 0, A, x.1.length, c, e.n⟩) (fun o => D o ∨ o = i * 64) Z w (.arr (i * 64)) (.slice A x.1.length c) := ⟨.inr rfl, by rw [upd_same]⟩
      have hdr : DR (VR (X0 P n W w Z) (upd β (i * 64) ⟨0, 0, A, x.1.length, c, e.n⟩) (fun o => D o ∨ o = i * 64) Z w) (.v false [.arr (i * 64)]) (.slice A x.1.length c) := hvr
      refine owned _ r (.v false [.arr (i * 64)]) [(i * 64, .arr e d false x.1)] [] [] x.2 T1 T2 hs h2 (fun z hz => ?_) ⟨_, _, _, hr.new (i * 64) hn0 ⟨0, 0, A, x.1.length, c, e.n⟩ (.arr e d false x.1) (by simp) T1 hf1.f hf1.b hf1.z (fun o _ => hf1.s o) ?_, hdr, trivial, fun o dd => ⟨.inl dd, upd_ne _ _ (hnD o dd)⟩, fun o b' j s => ?_⟩ fun ov h => h
      · rw [List.mem_singleton.1 hz]; exact ⟨Nat.le_refl _, by show i * 64 < (i + 1) * 64; omega⟩
      · show _ ∧ _ ∧ _
        rw [upd_same]
        exact ⟨rfl, rfl, hO⟩
      · by_cases e : o = i * 64
        · subst e; rw [upd_same] at s; exact .inr s
        · rw [upd_ne _ _ e] at s; exact .inl s
    | z e =>
      obtain ⟨A, r, rfl, h2⟩ := hA
      exact plain _ r _ x T (CS.le.refl _) h2 (fun β' D' _ => ⟨A, rfl⟩) fun ov h => h
    | f p q =>
      obtain ⟨v, r, rfl, hfn, h2⟩ := hA
      exact plain v r _ x.2 T (CS.le.refl _) h2 (fun β' D' _ => hfn) fun ov h => h
end
end Go.Dn
/- What a function leaves; what a function's code is worth: a contract. -/
set_option linter.unusedVariables false
namespace Go.Dn

theorem mapM_run {α β : Type} {P : Program} {w : World} {f : α → Sem β} {xs0 : Array α} {vs : List β} (hl : vs.length = xs0.size) (h : ∀ i (hi : i < xs0.size) (hv : i < vs.length), (f xs0[i]).run P w = .ok vs[i] w) : (xs0.mapM f).run P w = .ok vs.toArray w := by
  have key : ∀ (l : List α) (us : List β), us.length = l.length → (∀ i (hi : i < l.length) (hv : i < us.length), (f l[i]).run P w = .ok us[i] w) → (l.mapM f).run P w = .ok us w := by
    intro l
    induction l with
    | nil =>
      intro us hl _
      match us, hl with
      | [], _ => rfl
    | cons x l ih =>
      intro us hl h
      match us, hl with
      | u :: us, hl =>
        have h0 := h 0 (by simp) (by simp)
        simp only [List.getElem_cons_zero] at h0
        rw [List.mapM_cons]
        simp only [Sem.run_bind, h0, Result.andThen_ok]
        rw [ih us (by simpa using hl) fun i hi hv => by
          have := h (i + 1) (by simpa using hi) (by simpa using hv)
          simpa using this]
        rfl
  rw [Array.mapM_eq_mapM_toList, map_eq_pure_bind]
  simp only [Sem.run_bind]
  rw [key xs0.toList vs (by simpa using hl) fun i hi hv => by simpa using h i (by simpa using hi) hv]
  rfl

section
variable {X : Cx} {β : Nat → Pl} {D : Nat → Prop} {S : Nat → CS} {Z : CS} {outs : List CV} {a : Act} {w : World} {st : St}
theorem results_run {fn : Func} {tmps : Array Value} {P : Program} {vs : List Value} (hl : vs.length = fn.results.size)
    (h : ∀ i (hi : i < fn.results.size) (hv : i < vs.length), (match fn.results[i] with | .tmp t => (pure (tmps.getD t undef) : Sem Value) | .cell a t => (do loadVar t (← asAddr (tmps.getD a undef)))).run P w = .ok vs[i] w) : (results fn tmps).run P w = .ok (resV vs) w := by
  unfold results
  rw [Sem.run_bind, mapM_run hl (fun i hi hv => by
    have := h i hi hv
    revert this
    generalize fn.results[i] = r
    cases r <;> exact fun h => h)]
  simp only [Result.andThen_ok, Sem.run_pure]
  congr 1
  match vs with
  | [] => rfl
  | [v] => rfl
  | _ :: _ :: _ => rfl
theorem resultM_sound (hr : RelAt X β D S Z st.slot st.ob outs a w) {E : Env} (hE : TysOk X.P E) {r : ResultVar} {κ : K} {cs : List CV} (h : (resultM E st r κ).ev st.ob = some cs) :
    ∃ v us, (match r with | .tmp t => (pure (a.tmps.getD t undef) : Sem Value) | .cell b t => (do loadVar t (← asAddr (a.tmps.getD b undef)))).run X.P w = .ok v w ∧ pk κ us v ∧ All2 (VR X β D Z w) cs us := by
  cases r with
  | tmp t =>
    obtain ⟨us, h1, h2⟩ := dr_as (hr.slots t) h
    exact ⟨_, us, rfl, h1, h2⟩
  | cell b t =>
    simp only [resultM] at h
    obtain ⟨κ', h1, h2⟩ := ev_bind_some h
    obtain ⟨rfl, h3⟩ := ev_eqK h2
    obtain ⟨c, h4, h5⟩ := ev_bind_some h3
    have ht := hE.1 _ _ (ev_ofO h1)
    have hc := dr_cell_ok (hr.slots b) h4 (fun e => by rw [e] at h5; cases h5) (fun e => by rw [e] at h5; cases h5)
    obtain ⟨h6, us, h7, h8, b', off, hv, h9⟩ := loadM_sound hr hc h5
    have hrun : ∀ v, (loadVar t ⟨b', off, none⟩).run X.P w = .ok v w → (do loadVar t (← asAddr (a.tmps.getD b undef)) : Sem Value).run X.P w = .ok v w := fun v hv' => by
      rw [hv]
      simp [asAddr, hv']
    cases hk : κ'.agg with
    | true =>
      refine ⟨.agg us.toArray, us, hrun _ ?_, by simp [pk, hk], h8⟩
      have := run_loadCells_list (P := X.P) w ⟨b', off, none⟩ us fun j v hj => by rw [addr_add]; exact h9 j v hj
      rw [h7] at this
      simp [loadVar, run_isAgg' ht, run_sizeOf' ht, hk, this]
    | false =>
      have h10 : κ'.n = 1 := agg_cells hk
      rw [h10] at h7
      match us, h7, h8, h9 with
      | [u], _, h8, h9 =>
        refine ⟨u, [u], hrun u ?_, by simp [pk, hk], h8⟩
        have := h9 0 u rfl
        simp at this
        simp [loadVar, run_isAgg' ht, hk, this]
theorem resultsM_sound (hr : RelAt X β D S Z st.slot st.ob outs a w) {E : Env} (hE : TysOk X.P E) : ∀ (rv : List ResultVar) (rs : List (K × Q)) (y : Sig.Res rs × List Nat × List Nat), (resultsM E st rv rs).ev st.ob = some y → y.2.1.Nodup → (∀ o ∈ y.2.2, o ∉ y.2.1) →
    ∃ vs T Z', vs.length = rv.length ∧ (∀ (i : Nat) r v, rv[i]? = some r → vs[i]? = some v → (match r with | .tmp t => (pure (a.tmps.getD t undef) : Sem Value) | .cell b t => (do loadVar t (← asAddr (a.tmps.getD b undef)))).run X.P w = .ok v w) ∧ ResR Z' w rs y.1 vs T ∧
      T.le (US S y.2.1) ∧ Z.le Z' ∧ Z'.le (Z.or (US S (y.2.1 ++ y.2.2))) ∧ T.apart Z'
  | [], [], y, h, _, _ => by
    cases h
    exact ⟨[], CS.no, Z, rfl, fun i r v h => (by simp at h), rfl, CS.no_le _, CS.le.refl _, CS.le_l _ _, CS.no_apart _⟩
  | [], _ :: _, y, h, _, _ => by cases h
  | _ :: _, [], y, h, _, _ => by cases h
  | r :: rv, (κ, q) :: rs, y, h, hnd, hap => by
    simp only [resultsM] at h
    obtain ⟨cs, h1, h2⟩ := ev_bind_some h
    obtain ⟨x, h3, h4⟩ := ev_bind_some h2
    obtain ⟨y2, h5, h6⟩ := ev_bind_some h4
    cases h6
    simp only at hnd hap
    have n0 := List.nodup_append.1 hnd
    obtain ⟨v, us, k1, k2, k3⟩ := resultM_sound hr hE h1
    obtain ⟨T1, Z1, g⟩ := ofAll_sound hr h3 k3 n0.1 (fun o ho h => hap o (List.mem_append.2 (.inl ho)) (List.mem_append.2 (.inl h)))
    obtain ⟨vs, T2, Z2, q1, q2, q3, q4, q5, q6, q7⟩ := resultsM_sound hr hE rv rs y2 h5 n0.2.1 (fun o ho h => hap o (List.mem_append.2 (.inr ho)) (List.mem_append.2 (.inr h)))
    have hdd : ∀ o ∈ x.dead, o ∉ y2.2.1 := fun o h h' => n0.2.2 o h o h' rfl
    refine ⟨v :: vs, T1.or T2, Z1.or Z2, by simp [q1], fun i r' v' hr' hv' => ?_, ⟨v, us, vs, T1, T2, rfl, k2, H.more (CS.le_l _ _) _ _ _ _ _ g.h, ResR.more (CS.le_r _ _) _ _ _ _ q3, CS.le_l _ _, CS.le_r _ _, (US.apart hr hdd).mono g.t q4⟩, ?_, g.z.trans (CS.le_l _ _), ?_, ?_⟩
    · cases i with
      | zero => simp at hr' hv'; subst hr'; subst hv'; exact k1
      | succ i => exact q2 i r' v' (by simpa using hr') (by simpa using hv')
    · exact CS.or_le (g.t.trans (US.le fun o h => List.mem_append.2 (.inl h))) (q4.trans (US.le fun o h => List.mem_append.2 (.inr h)))
    · exact CS.or_le (g.z'.trans (CS.or_le (CS.le_l _ _) ((US.le fun o h => by simp at h ⊢; rcases h with h | h; exact .inl h; exact .inr (.inr (.inl h))).trans (CS.le_r _ _)))) (q6.trans (CS.or_le (CS.le_l _ _) ((US.le fun o h => by simp at h ⊢; rcases h with h | h; exact .inr (.inl h); exact .inr (.inr (.inr h))).trans (CS.le_r _ _))))
    · refine CS.or_apart (CS.apart_or g.d (two_apart hr g.t q6 fun o ho h => ?_)) (CS.apart_or (two_apart hr q4 g.z' fun o ho h => ?_) q7)
      · rcases List.mem_append.1 h with h | h
        · exact hdd o ho h
        · exact hap o (List.mem_append.2 (.inr h)) (List.mem_append.2 (.inl ho))
      · rcases List.mem_append.1 h with h | h
        · exact hdd o h ho
        · exact hap o (List.mem_append.2 (.inl h)) (List.mem_append.2 (.inr ho))
theorem outP_sound (hr : RelAt X β D S Z st.slot st.ob outs a w) : ∀ (ps : List PM) (cs : List CV) (vs ov : List Value) (y : Sig.OutP ps × List Nat × List Nat), (outPM ps cs).ev st.ob = some y → All2 (VR X β D Z w) cs ov → OVR ps vs ov → y.2.1.Nodup → (∀ o ∈ y.2.2, o ∉ y.2.1) →
    ∃ T Z', OutsR Z' w ps y.1 vs T ∧ T.le (US S y.2.1) ∧ Z.le Z' ∧ Z'.le (Z.or (US S (y.2.1 ++ y.2.2))) ∧ T.apart Z' := by
  intro ps
  induction ps with
  | nil =>
    intro cs vs ov y h hall ho hnd hap
    match cs with
    | [] => cases h; exact ⟨CS.no, Z, trivial, CS.no_le _, CS.le.refl _, CS.le_l _ _, CS.no_apart _⟩
    | _ :: _ => cases h
  | cons p ps ih =>
    intro cs vs ov y h hall ho hnd hap
    cases p with
    | b κ =>
      match vs, ho with
      | v :: vs, ho => exact ih cs vs ov y h hall ho hnd hap
    | r κ =>
      match vs, ho with
      | v :: vs, ho => exact ih cs vs ov y h hall ho hnd hap
    | c e d =>
      match vs, ho with
      | v :: vs, ho => exact ih cs vs ov y h hall ho hnd hap
    | z e =>
      match vs, ho with
      | v :: vs, ho => exact ih cs vs ov y h hall ho hnd hap
    | f p q =>
      match vs, ho with
      | v :: vs, ho => exact ih cs vs ov y h hall ho hnd hap
    | p κ q q' =>
      match vs, ho with
      | v :: vs, ⟨r, e, ho'⟩ =>
        subst e
        clear ho
        have ho := ho'
        have hcs : ∃ o cs1, cs = .box o 0 :: cs1 := by
          match cs with
          | [] => cases h
          | c :: cs1 =>
            cases c <;> try (cases h; done)
            rename_i o j
            cases j with
            | zero => exact ⟨o, cs1, rfl⟩
            | succ j => cases h
        obtain ⟨o, cs1, rfl⟩ := hcs
        · obtain ⟨⟨hD, hv⟩, hall⟩ := hall
          simp only [outPM] at h
          simp only [M.ev] at h
          split at h
          · rename_i c hoc
            obtain ⟨x, h3, h4⟩ := ev_bind_some h
            obtain ⟨y2, h5, h6⟩ := ev_bind_some h4
            cases h6
            simp only at hnd hap
            have hob := hr.objs o
            rw [hoc] at hob
            obtain ⟨us0, g1, g2⟩ := gather (R := fun c v => VR X β D Z w c v) (w := w) (b := (β o).b) c (β o).j fun i c' hi => by
              obtain ⟨_, v, h1, h2⟩ := hob i c' hi; exact ⟨v, h1.1, h2⟩
            have n0 := List.nodup_cons.1 hnd
            have n1 := List.nodup_append.1 n0.2
            have hdd : ∀ o ∈ x.dead, o ∉ y2.2.1 := fun o h h' => n1.2.2 o h o h' rfl
            obtain ⟨T1, Z1, g⟩ := ofAll_sound hr h3 g1 n1.1 (fun o ho h => hap o (List.mem_append.2 (.inl ho)) (.tail _ (List.mem_append.2 (.inl h))))
            obtain ⟨T2, Z2, q3, q4, q5, q6, q7⟩ := ih cs1 vs r y2 h5 hall ho n1.2.1 (fun o ho h => hap o (List.mem_append.2 (.inr ho)) (.tail _ (List.mem_append.2 (.inr h))))
            have hox : o ∉ x.dead := fun h => n0.1 (List.mem_append.2 (.inl h))
            have hoy : o ∉ y2.2.1 := fun h => n0.1 (List.mem_append.2 (.inr h))
            have hT1 : (CS.or (S o) T1).le (US S (o :: x.dead)) := CS.or_le (fun b i hh => ⟨o, .head _, hh⟩) (g.t.trans (US.le fun z hz => .tail _ hz))
            refine ⟨(CS.or (S o) T1).or T2, Z1.or Z2, ⟨(β o).b, (β o).j, vs, _, T2, by rw [hv, Nat.add_zero], ⟨us0, T1, H.more (CS.le_l _ _) _ _ _ _ _ g.h, CS.le_r _ _, fun i u hi => ?_⟩, OutsR.more (CS.le_r _ _) _ _ _ _ q3, CS.le_l _ _, CS.le_r _ _, ?_⟩, ?_, g.z.trans (CS.le_l _ _), ?_, ?_⟩
            · have hlt : i < c.length := by rw [g1.len]; exact (List.getElem?_eq_some_iff.1 hi).1
              obtain ⟨k1, v', k2, k3⟩ := hob i c[i] (by simp [hlt])
              have e : v' = u := by have := g2 i u hi; rw [k2.1] at this; exact Option.some.inj this
              refine ⟨e ▸ k2, .inl k1, fun t => ?_⟩
              obtain ⟨z, hz, s⟩ := g.t _ _ t
              exact hr.apart o z (fun e => hox (e ▸ hz)) _ _ k1 s
            · exact (US.apart hr fun z hz h' => by
                rcases List.mem_cons.1 hz with e | hz
                · rw [e] at h'; exact hoy h'
                · exact hdd z hz h').mono hT1 q4
            · exact CS.or_le (hT1.trans (US.le fun z hz => by
                rcases List.mem_cons.1 hz with rfl | hz
                · exact .head _
                · exact .tail _ (List.mem_append.2 (.inl hz)))) (q4.trans (US.le fun z hz => .tail _ (List.mem_append.2 (.inr hz))))
            · exact CS.or_le (g.z'.trans (CS.or_le (CS.le_l _ _) ((US.le fun z h => by simp at h ⊢; rcases h with h | h; exact .inr (.inl h); exact .inr (.inr (.inr (.inl h)))).trans (CS.le_r _ _)))) (q6.trans (CS.or_le (CS.le_l _ _) ((US.le fun z h => by simp at h ⊢; rcases h with h | h; exact .inr (.inr (.inl h)); exact .inr (.inr (.inr (.inr h)))).trans (CS.le_r _ _))))
            · refine CS.or_apart (CS.or_apart (CS.apart_or ?_ ?_) (CS.apart_or g.d ?_)) (CS.apart_or ?_ q7)
              · exact two_apart hr (I1 := [o]) (fun b i hh => ⟨o, .head _, hh⟩) g.z' fun z hz h => by
                  rw [List.mem_singleton.1 hz] at h
                  rcases List.mem_append.1 h with h | h
                  · exact hox h
                  · exact hap o (List.mem_append.2 (.inl h)) (.head _)
              · exact two_apart hr (I1 := [o]) (fun b i hh => ⟨o, .head _, hh⟩) q6 fun z hz h => by
                  rw [List.mem_singleton.1 hz] at h
                  rcases List.mem_append.1 h with h | h
                  · exact hoy h
                  · exact hap o (List.mem_append.2 (.inr h)) (.head _)
              · exact two_apart hr g.t q6 fun z hz h => by
                  rcases List.mem_append.1 h with h | h
                  · exact hdd z hz h
                  · exact hap z (List.mem_append.2 (.inr h)) (.tail _ (List.mem_append.2 (.inl hz)))
              · exact two_apart hr q4 g.z' fun z hz h => by
                  rcases List.mem_append.1 h with h | h
                  · exact hdd z h hz
                  · exact hap z (List.mem_append.2 (.inl h)) (.tail _ (List.mem_append.2 (.inr hz)))
          · cases h
    | m κ =>
      match vs, ho with
      | v :: vs, ⟨us, r, e, hp, hl, ho'⟩ =>
        subst e
        clear ho
        have ho := ho'
        simp only [outPM] at h
        obtain ⟨c, h1, h2⟩ := ev_bind_some h
        obtain ⟨x, h3, h4⟩ := ev_bind_some h2
        obtain ⟨y2, h5, h6⟩ := ev_bind_some h4
        cases h6
        obtain ⟨rfl, hlc⟩ := ev_takeN h1
        simp only at hnd hap
        have n0 := List.nodup_append.1 hnd
        have hdd : ∀ o ∈ x.dead, o ∉ y2.2.1 := fun o h h' => n0.2.2 o h o h' rfl
        have a1 := hall.take κ.n
        have a2 := hall.drop κ.n
        rw [← hl] at a1 a2
        simp only [List.take_left, List.drop_left] at a1 a2
        rw [hl] at a1 a2
        obtain ⟨T1, Z1, g⟩ := ofAll_sound hr h3 a1 n0.1 (fun o ho h => hap o (List.mem_append.2 (.inl ho)) (List.mem_append.2 (.inl h)))
        obtain ⟨T2, Z2, q3, q4, q5, q6, q7⟩ := ih _ vs r y2 h5 a2 ho n0.2.1 (fun o ho h => hap o (List.mem_append.2 (.inr ho)) (List.mem_append.2 (.inr h)))
        refine ⟨T1.or T2, Z1.or Z2, ⟨v, us, vs, T1, T2, rfl, hp, H.more (CS.le_l _ _) _ _ _ _ _ g.h, OutsR.more (CS.le_r _ _) _ _ _ _ q3, CS.le_l _ _, CS.le_r _ _, (US.apart hr hdd).mono g.t q4⟩, ?_, g.z.trans (CS.le_l _ _), ?_, ?_⟩
        · exact CS.or_le (g.t.trans (US.le fun o h => List.mem_append.2 (.inl h))) (q4.trans (US.le fun o h => List.mem_append.2 (.inr h)))
        · exact CS.or_le (g.z'.trans (CS.or_le (CS.le_l _ _) ((US.le fun o h => by simp at h ⊢; rcases h with h | h; exact .inl h; exact .inr (.inr (.inl h))).trans (CS.le_r _ _)))) (q6.trans (CS.or_le (CS.le_l _ _) ((US.le fun o h => by simp at h ⊢; rcases h with h | h; exact .inr (.inl h); exact .inr (.inr (.inr h))).trans (CS.le_r _ _))))
        · refine CS.or_apart (CS.apart_or g.d (two_apart hr g.t q6 fun o ho h => ?_)) (CS.apart_or (two_apart hr q4 g.z' fun o ho h => ?_) q7)
          · rcases List.mem_append.1 h with h | h
            · exact hdd o ho h
            · exact hap o (List.mem_append.2 (.inr h)) (List.mem_append.2 (.inl ho))
          · rcases List.mem_append.1 h with h | h
            · exact hdd o h ho
            · exact hap o (List.mem_append.2 (.inl h)) (List.mem_append.2 (.inr ho))
end
theorem look_slots {R : DV → Value → Prop} (hu : ∀ v, R (.v false [.und]) v) : ∀ (l : List (Nat × DV)) (vs : List Value) (i t : Nat), All2 (fun s v => R s.2 v) l vs → l.map (·.1) = List.range' i l.length → R (look (.v false [.und]) l t) ((vs[t - i]?).getD undef)
  | [], vs, i, t, h, hk => hu _
  | (j, d) :: l, [], i, t, h, hk => (h : False).elim
  | (j, d) :: l, v :: vs, i, t, ⟨h1, h2⟩, hk => by
    simp only [List.map_cons, List.length_cons, List.range'_succ] at hk
    have e1 := (List.cons.inj hk).1
    have e2 := (List.cons.inj hk).2
    subst e1
    simp only [look]
    cases hb : Nat.beq j t with
    | true =>
      have := Nat.eq_of_beq_eq_true hb
      subst this
      simpa using h1
    | false =>
      simp only [cond_false]
      by_cases hlt : j < t
      · have := look_slots hu l vs (j + 1) t h2 e2
        rwa [show t - j = (t - (j + 1)) + 1 by omega, List.getElem?_cons_succ]
      · have hno : look (.v false [.und]) l t = .v false [.und] := by
          have : ∀ (l : List (Nat × DV)) (i : Nat), l.map (·.1) = List.range' i l.length → t < i → look (.v false [.und]) l t = .v false [.und] := by
            intro l
            induction l with
            | nil => intro _ _ _; rfl
            | cons x l ih =>
              intro i hk hi
              simp only [List.map_cons, List.length_cons, List.range'_succ] at hk
              have e1 := (List.cons.inj hk).1
              simp only [look]
              rw [beq_ne (by omega)]
              exact ih (i + 1) (List.cons.inj hk).2 (by omega)
          refine this l (j + 1) e2 ?_
          have hne : j ≠ t := fun e => by rw [e, beq_self] at hb; cases hb
          omega
        rw [hno]; exact hu _
theorem contract_of {P : Program} {E : Env} {k : Nat} (hE : EnvOk P E k) {f : FuncId} {fn : Func} {c : Code} (hf : P.funcs[f]? = some fn) (hb : fn.body = some c) (hname : (fn.name == "runtime.NumGoroutine") = false) {sg : Sig} {hd : Hints} {ls : List (Nat × Lp sg.Out)} (hl : LoopsOk E k hd ls (loopsOf c)) {F : Sig.In sg.ps → Option sg.Out}
    (hF : ∀ x, denFn E k fn sg hd (runL k hd ls) x = F x) : Contract P f sg F := by
  refine ⟨fn, hf, by rw [hb]; rfl, hname, fun x y hy w Z W vs hZb hWb hWZ hA => ?_⟩
  rw [← hF] at hy
  unfold denFn at hy
  rw [hb] at hy
  simp only at hy
  cases hchk : (dstsOk fn.ntmps c && (Nat.ble sg.ps.length fn.ntmps && psOk sg.ps)) with
  | false => rw [hchk] at hy; cases hy
  | true =>
    rw [hchk] at hy
    simp only [Bool.and_eq_true] at hchk
    simp only [cond_true] at hy
    have hlen := hA.len
    have hnt := Nat.le_of_ble_eq_true hchk.2.1
    refine calls_of_wp hf hb ?_
    have hsz : (vs.toArray ++ Array.replicate (fn.ntmps - vs.toArray.size) undef).size = fn.ntmps := by simp; omega
    have hr0 : RelAt (X0 P fn.ntmps W w Z) (fun _ => ⟨0, 0, none, 0, 0, 0⟩) (fun _ => False) (fun _ => CS.no) Z (fun _ => .v false [.und]) (fun _ => .non) [] { tmps := vs.toArray ++ Array.replicate (fn.ntmps - vs.toArray.size) undef, defers := [] } w :=
      ⟨hsz, rfl, fun _ => trivial, fun _ => trivial, trivial, fun _ h => h.elim, fun _ _ _ => CS.no_apart _, fun _ => CS.no_apart _, fun _ => ⟨CS.no_le _, fun _ _ h => h.elim⟩, fun b j z => .inl z, hZb, CS.le.refl _, Agr.refl _ _⟩
    obtain ⟨β, D, S, ov, k1, k2, k3, k4, k5, _⟩ := entryAll_sound sg.ps 0 x vs W _ _ _ _ hchk.2.2 hA (CS.le.refl _) hr0 ⟨fun b j t => .inl t, hWb, hWZ, fun _ => CS.apart_no _⟩ (fun _ _ => rfl)
    let X : Cx := ⟨P, fn.ntmps, W, w, Z, ov⟩
    have hlk := k2.len
    have hrE : Rel X (entry sg.ps x) { tmps := vs.toArray ++ Array.replicate (fn.ntmps - vs.toArray.size) undef, defers := [] } w := by
      refine ⟨β, D, S, Z, ?_⟩
      have eob : (entry sg.ps x).ob = updAll (fun _ => OB.non) (entryAll 0 sg.ps x).2.1 := by
        funext i
        show look .non (entryAll 0 sg.ps x).2.1 i = _
        exact look_updAll _ i (entry_nodup sg.ps 0 x hchk.2.2).1
      constructor
      · exact k1.size
      · rfl
      · intro t
        show DR _ (look _ (entryAll 0 sg.ps x).1 t) _
        have h1 := look_slots (R := DR (VR X β D Z w)) (fun v => trivial) (entryAll 0 sg.ps x).1 vs 0 t (All2.imp (fun s v h => DR.imp (fun c v h => vr_ov [] ov h) _ _ h) _ _ k2) (by rw [k3, hlk, hlen])
        have e : (vs.toArray ++ Array.replicate (fn.ntmps - vs.toArray.size) undef).getD t undef = (vs[t - 0]?).getD undef := by
          rw [Array.getD_eq_getD_getElem?, Nat.sub_zero]
          by_cases ht : t < vs.length
          · rw [Array.getElem?_append_left (by simpa using ht)]; simp
          · rw [Array.getElem?_append_right (by simpa using ht), Array.getElem?_replicate, List.getElem?_eq_none (by omega)]
            split <;> rfl
        simp only
        rw [e]; exact h1
      · intro o
        rw [eob]
        exact or_ov [] ov (k1.objs o)
      · exact All2.imp (fun c v h => vr_ov [] ov h) _ _ k4
      · intro o d
        rw [eob]
        exact k1.dom o d
      · exact k1.apart
      · exact k1.sz
      · exact k1.sin
      · exact k1.zin
      · exact k1.zbd
      · exact k1.z0
      · exact k1.agr
    refine den_sound (X := X) hE c hchk.1 hl _ _ _ w _ hy hrE fun e st a w' hr hc0 => ?_
    have hc : finish E sg fn.results.toList st = some y := by
      cases e with
      | normal => exact hc0
      | ret => exact hc0
      | exit id => cases hc0
    have hex : e = .normal ∨ e = .ret := by
      cases e with
      | normal => exact .inl rfl
      | ret => exact .inr rfl
      | exit id => exact absurd hc0 (by simp [hard])
    obtain ⟨β', D', S', Z', hr⟩ := hr
    unfold finish at hc
    obtain ⟨y', lg, h1, h2⟩ := M.run_some _ _ _ _ hc
    cases h2
    obtain ⟨x1, h3, h4⟩ := ev_bind_some h1
    obtain ⟨y1, h5, h6⟩ := ev_bind_some h4
    cases hck : (nodupN (x1.2.1 ++ y1.2.1) && apartN (x1.2.2 ++ y1.2.2) (x1.2.1 ++ y1.2.1)) with
    | false => rw [hck] at h6; cases h6
    | true =>
      rw [hck] at h6
      cases h6
      simp only [Bool.and_eq_true] at hck
      have hnd := nodupN_ok hck.1
      have hap := apartN_ok hck.2
      have n0 := List.nodup_append.1 hnd
      obtain ⟨rvs, T1, Z1, q1, q2, q3, q4, q5, q6, q7⟩ := resultsM_sound hr hE.ty _ _ x1 h3 n0.1 (fun o ho h => hap o (List.mem_append.2 (.inl ho)) (List.mem_append.2 (.inl h)))
      obtain ⟨T2, Z2, p3, p4, p5, p6, p7⟩ := outP_sound hr sg.ps st.outs vs ov y1 h5 hr.outs k5 n0.2.1 (fun o ho h => hap o (List.mem_append.2 (.inr ho)) (List.mem_append.2 (.inr h)))
      have hdd : ∀ o ∈ x1.2.1, o ∉ y1.2.1 := fun o h h' => n0.2.2 o h o h' rfl
      have hSF : ∀ (l : List Nat) b j, US S' l b j → W b j ∨ w.heap.size ≤ b := fun l b j ⟨o, _, s⟩ => (hr.sin o).1 b j s
      have hSB : ∀ (l : List Nat) b j, US S' l b j → b < w'.heap.size := fun l b j ⟨o, _, s⟩ => (hr.sin o).2 b j s
      have hZF : ∀ b j, Z' b j → Z b j ∨ W b j ∨ w.heap.size ≤ b := fun b j z => hr.zin b j z
      have hrun : (results fn a.tmps).run P w' = .ok (resV rvs) w' := results_run (by rw [q1]; simp) fun i hi hv => q2 i _ _ (by simp [hi]) (by simp [hv])
      have hpost : bodyPost P fn (fun e w'_1 => ∃ v rv Z' T1 T2, e = .returned v ∧ Ended Z W w sg vs (x1.1, y1.1) v w'_1 rv Z' T1 T2) .ret a w' := by
        refine ⟨hr.defers, _, hrun, _, rvs, Z1.or Z2, T1, T2, rfl, rfl, hr.agr, hr.z0.trans (q5.trans (CS.le_l _ _)), fun b j z => ?_, fun b j z => ?_, ResR.more (CS.le_l _ _) _ _ _ _ q3, OutsR.more (CS.le_r _ _) _ _ _ _ p3, (US.apart hr hdd).mono q4 p4, CS.apart_or q7 (two_apart hr q4 p6 fun o ho h => ?_), CS.apart_or (two_apart hr p4 q6 fun o ho h => ?_) p7, fun b j t => hSB _ b j (q4 b j t), fun b j t => hSB _ b j (p4 b j t), fun b j t => hSF _ b j (q4 b j t), fun b j t => hSF _ b j (p4 b j t)⟩
        · rcases z with z | z
          · rcases q6 b j z with z | z
            · exact hr.zbd b j z
            · exact hSB _ b j z
          · rcases p6 b j z with z | z
            · exact hr.zbd b j z
            · exact hSB _ b j z
        · rcases z with z | z
          · rcases q6 b j z with z | z
            · exact hZF b j z
            · exact .inr (hSF _ b j z)
          · rcases p6 b j z with z | z
            · exact hZF b j z
            · exact .inr (hSF _ b j z)
        · rcases List.mem_append.1 h with h | h
          · exact hdd o ho h
          · exact hap o (List.mem_append.2 (.inr h)) (List.mem_append.2 (.inl ho))
        · rcases List.mem_append.1 h with h | h
          · exact hdd o h ho
          · exact hap o (List.mem_append.2 (.inl h)) (List.mem_append.2 (.inr ho))
      rcases hex with rfl | rfl
      · exact hpost
      · exact hpost
where
  look_updAll : ∀ (l : List (Nat × OB)) (i : Nat), (l.map (·.1)).Nodup → look OB.non l i = updAll (fun _ => OB.non) l i := by
    intro l i hnd
    have key : ∀ (l : List (Nat × OB)) (f : Nat → OB), (l.map (·.1)).Nodup → updAll f l i = (if i ∈ l.map (·.1) then look OB.non l i else f i) := by
      intro l
      induction l with
      | nil => intro f _; rfl
      | cons x l ih =>
        intro f hnd
        obtain ⟨j, b⟩ := x
        simp only [List.map_cons] at hnd
        have n0 := List.nodup_cons.1 hnd
        show updAll (upd f j b) l i = _
        rw [ih _ n0.2]
        by_cases e : i = j
        · subst e
          rw [if_neg n0.1, if_pos (by simp), upd_same]
          simp [look]
        · rw [upd_ne _ _ e]
          have e2 : Nat.beq j i = false := beq_ne fun h => e h.symm
          simp only [List.map_cons, List.mem_cons, e, false_or, look, e2, cond_false]
    rw [key l _ hnd]
    split
    · rfl
    · rename_i h
      have : ∀ (l : List (Nat × OB)), i ∉ l.map (·.1) → look OB.non l i = .non := by
        intro l
        induction l with
        | nil => intro _; rfl
        | cons x l ih =>
          intro h
          simp only [List.map_cons, List.mem_cons, not_or] at h
          simp only [look]
          rw [beq_ne fun e => h.1 e.symm]
          exact ih h.2
      exact this l h
  give_nodup : ∀ (κ : K) (q : Q) (x : κ.T) (i : Nat), ((κ.give q x i).2.1.map (·.1)).Nodup
    | .int _, q, _, _ => by cases q <;> exact .nil
    | .bool, q, _, _ => by cases q <;> exact .nil
    | .str, q, _, _ => by cases q <;> exact .nil
    | .unit, q, _, _ => by cases q <;> exact .nil
    | .pair a b, q, x, i => by
      simp only [K.give, List.map_append]
      refine List.nodup_append.2 ⟨give_nodup a _ _ _, give_nodup b _ _ _, fun z hz z' hz' e => ?_⟩
      obtain ⟨p, hp, rfl⟩ := List.mem_map.1 hz
      obtain ⟨p', hp', rfl⟩ := List.mem_map.1 hz'
      have h1 := (give_ids a q.l x.1 i).2 p hp
      have h2 := (give_ids b q.r x.2 _).2 p' hp'
      omega
    | .sl _, q, _, _ => by cases q <;> simp [K.give]
  entry_nodup : ∀ (ps : List PM) (i : Nat) (x : Sig.In ps), psOk ps = true → ((entryAll i ps x).2.1.map (·.1)).Nodup ∧ ∀ z ∈ (entryAll i ps x).2.1, i * 64 ≤ z.1 := by
    intro ps
    induction ps with
    | nil => intro i x _; exact ⟨.nil, fun z hz => by cases hz⟩
    | cons p ps ih =>
      intro i x hps
      have hps2 : psOk ps = true := by unfold psOk at hps ⊢; simp only [List.all_cons, Bool.and_eq_true] at hps; exact hps.2
      have fin : ∀ (l r : List (Nat × OB)), (l.map (·.1)).Nodup → (∀ z ∈ l, i * 64 ≤ z.1 ∧ z.1 < (i + 1) * 64) → (r.map (·.1)).Nodup → (∀ z ∈ r, (i + 1) * 64 ≤ z.1) → ((l ++ r).map (·.1)).Nodup ∧ ∀ z ∈ l ++ r, i * 64 ≤ z.1 := fun l r h1 h2 h3 h4 => by
        refine ⟨?_, fun z hz => ?_⟩
        · rw [List.map_append]
          refine List.nodup_append.2 ⟨h1, h3, fun z hz z' hz' e => ?_⟩
          obtain ⟨p, hp, rfl⟩ := List.mem_map.1 hz
          obtain ⟨p', hp', rfl⟩ := List.mem_map.1 hz'
          have := h2 p hp
          have := h4 p' hp'
          omega
        · rcases List.mem_append.1 hz with hz | hz
          · exact (h2 z hz).1
          · have := h4 z hz; omega
      have plain : ∀ x2 : Sig.In ps, ((entryAll (i + 1) ps x2).2.1.map (·.1)).Nodup ∧ ∀ z ∈ (entryAll (i + 1) ps x2).2.1, i * 64 ≤ z.1 := fun x2 => by
        obtain ⟨h1, h2⟩ := ih (i + 1) x2 hps2
        exact ⟨h1, fun z hz => by have := h2 z hz; omega⟩
      cases p with
      | b κ => exact plain x.2
      | r κ => exact plain x.2
      | z e => exact plain x
      | f p q => exact plain x.2
      | c e d =>
        obtain ⟨h1, h2⟩ := ih (i + 1) x.2 hps2
        exact fin [(i * 64, _)] _ (by simp) (fun z hz => by rw [List.mem_singleton.1 hz]; exact ⟨Nat.le_refl _, by show i * 64 < (i + 1) * 64; omega⟩) h1 h2
      | m κ =>
        have hk : 2 * κ.n ≤ 64 := by unfold psOk at hps; simp only [List.all_cons, Bool.and_eq_true] at hps; exact Nat.le_of_ble_eq_true hps.1
        obtain ⟨h1, h2⟩ := ih (i + 1) x.2 hps2
        have gi := give_ids κ .dp x.1 (i * 64)
        have gt := give_top κ .dp x.1 (i * 64)
        exact fin _ _ (give_nodup _ _ _ _) (fun z hz => by have := gi.2 z hz; omega) h1 h2
      | p κ q q' =>
        have hk : 2 * κ.n + 2 ≤ 64 := by unfold psOk at hps; simp only [List.all_cons, Bool.and_eq_true] at hps; exact Nat.le_of_ble_eq_true hps.1
        obtain ⟨h1, h2⟩ := ih (i + 1) x.2 hps2
        have gi := give_ids κ q x.1 (i * 64 + 2)
        have gt := give_top κ q x.1 (i * 64 + 2)
        refine fin ((i * 64, .box (κ.give q x.1 (i * 64 + 2)).1) :: (κ.give q x.1 (i * 64 + 2)).2.1) _ ?_ (fun z hz => ?_) h1 h2
        · rw [List.map_cons]
          refine List.nodup_cons.2 ⟨fun h => ?_, give_nodup _ _ _ _⟩
          obtain ⟨z, hz, e⟩ := List.mem_map.1 h
          have := (gi.2 z hz).1
          simp only at e
          omega
        · rcases List.mem_cons.1 hz with rfl | hz
          · exact ⟨Nat.le_refl _, by show i * 64 < (i + 1) * 64; omega⟩
          · have := gi.2 z hz; omega
end Go.Dn
/- A law's arguments, read as values; a law's row, out of a contract. -/
set_option linter.unusedVariables false
namespace Go.Dn
open Go.RowKit Go.ChangeShapes Go.WideShapes

/-! ### Structs that are compared -/
def namesB : List Field → Bool
  | [] => true
  | f :: fs => !(f.name == "_") && namesB fs
def eqTypeB (P : Program) (t : TypeId) : Bool :=
  (!P.eqGuardType P.depth t) && ((!P.stoodInHeld t) && (match P.underlying t with
    | some (.struct fs) => namesB fs.toList
    | _ => false))
def eqsB (P : Program) (E : Env) : Bool := E.eqs.all (eqTypeB P)
theorem eqFields_run {P : Program} (w : World) (xs ys : Array Value) (d : Nat) : ∀ (κ : K) (fs : List Field) (i : Nat) (us us' : List Value) (b : Bool), (TyR P κ).2 fs i → namesB fs = true → xs.toList.drop i = us → ys.toList.drop i = us' → K.eatW κ us → eqVals us us' = some b →
    (Op.eqFields (d + 1) xs ys fs).run P w = .ok b w
  | .unit, fs, i, us, us', b, hf, hn, hx, hy, hu, he => by
    have : fs = [] := hf
    subst this
    match us, hu with
    | [], _ =>
      match us', he with
      | [], he => cases he; rfl
  | .pair a κ, fs, i, us, us', b, hf, hn, hx, hy, hu, he => by
    obtain ⟨f, r, rfl, h1, h2, h3, h4⟩ := hf
    simp only [namesB, Bool.and_eq_true, Bool.not_eq_true', beq_eq_false_iff_ne] at hn
    have one : ∀ (u u' : Value) (c : Bool) (us1 us1' : List Value) (t : Bool), us = u :: us1 → us' = u' :: us1' → a.n = 1 → a.agg = false → (Op.equalIn (d + 1) f.type u u').run P w = .ok c w → K.eatW κ us1 → eqVals us1 us1' = some t → b = (c && t) →
        (Op.eqFields (d + 1) xs ys (f :: r)).run P w = .ok b w := fun u u' c us1 us1' t e1 e2 hn1 hag he1 hw ht hb => by
      have x1 : xs[i]? = some u := by
        have := congrArg (fun l => l[0]?) (hx.trans e1)
        simpa using this
      have y1 : ys[i]? = some u' := by
        have := congrArg (fun l => l[0]?) (hy.trans e2)
        simpa using this
      have x2 : xs.toList.drop (i + 1) = us1 := by
        have := congrArg (List.drop 1) (hx.trans e1)
        simpa [List.drop_drop, Nat.add_comm] using this
      have y2 : ys.toList.drop (i + 1) = us1' := by
        have := congrArg (List.drop 1) (hy.trans e2)
        simpa [List.drop_drop, Nat.add_comm] using this
      rw [hn1] at h4
      have ih := eqFields_run w xs ys d κ r (i + 1) us1 us1' t h4 hn.2 x2 y2 hw ht
      have px : (part f.type xs f.offset).run P w = .ok u w := by simp [part, run_isAgg' h3, hag, h1, x1]
      have py : (part f.type ys f.offset).run P w = .ok u' w := by simp [part, run_isAgg' h3, hag, h1, y1]
      simp only [Op.eqFields, ne_eq, hn.1, not_false_eq_true, if_true, Sem.run_bind, px, py, Result.andThen_ok, he1]
      cases c with
      | true => simp [ih, hb]
      | false => simp [hb]
    match us, hu with
    | [], hu => cases a <;> exact hu.elim
    | u :: us1, hu =>
      match us', he with
      | [], he => cases u <;> cases he
      | u' :: us1', he =>
        cases a <;> cases u <;> first | exact (hu : False).elim | skip
        case int.int k k1 n1 =>
          cases u' <;> first | (cases he; done) | skip
          rename_i k2 n2
          simp only [eqVals] at he
          split at he
          · rename_i e
            subst e
            cases ht : eqVals us1 us1' with
            | none => rw [ht] at he; cases he
            | some t =>
              rw [ht] at he
              exact one _ _ _ _ _ t rfl rfl rfl rfl (run_equalIn_int w d _ _ _ _ _ h3.1) hu ht (Option.some.inj he).symm
          · cases he
        case bool.bool b1 =>
          cases u' <;> first | (cases he; done) | skip
          simp only [eqVals] at he
          cases ht : eqVals us1 us1' with
          | none => rw [ht] at he; cases he
          | some t =>
            rw [ht] at he
            exact one _ _ _ _ _ t rfl rfl rfl rfl (run_equalIn_bool' w d _ _ _ h3.1) hu ht (Option.some.inj he).symm
        case str.string s1 =>
          cases u' <;> first | (cases he; done) | skip
          simp only [eqVals] at he
          cases ht : eqVals us1 us1' with
          | none => rw [ht] at he; cases he
          | some t =>
            rw [ht] at he
            refine one _ _ _ _ _ t rfl rfl rfl rfl (run_equalIn_string w d _ _ _ h3.1) hu ht ?_
            rw [← beq_toListBytes]; exact (Option.some.inj he).symm
  | .int _, fs, i, us, us', b, hf, _, _, _, _, _ => hf.elim
  | .bool, fs, i, us, us', b, hf, _, _, _, _, _ => hf.elim
  | .str, fs, i, us, us', b, hf, _, _, _, _, _ => hf.elim
  | .sl _, fs, i, us, us', b, hf, _, _, _, _, _ => hf.elim
theorem eqsB_spec {P : Program} {E : Env} (hE : TysOk P E) (h : eqsB P E = true) : EqsOk P E := fun t κ hm hk => by
  have ht := hE.1 t κ hk
  have := List.all_eq_true.1 h t ((memN_iff _ _).1 hm)
  simp only [eqTypeB, Bool.and_eq_true, Bool.not_eq_true'] at this
  obtain ⟨h1, h2, h3⟩ := this
  refine ⟨h1, fun us us' b w hu he => ?_⟩
  split at h3
  · rename_i fs hfs
    have hfo : P.fieldsOf t = fs := by simp [Program.fieldsOf, hfs]
    rw [run_equalIn_struct w 9999 t us us' (by rw [hfo]; exact hfs) h2, hfo]
    cases κ with
    | pair a k2 =>
      obtain ⟨fs', f, r, k1, _, e2, k3, k4, k5, k6⟩ := ht
      rw [hfs] at k1
      cases k1
      exact eqFields_run w us us' 9998 (.pair a k2) fs.toList 0 _ _ b ⟨f, r, e2, k3, k4, k5, by simpa using k6⟩ h3 (by simp) (by simp) hu he
    | unit => exact ht.elim
    | _ => exact (hu : False).elim
  · cases h3

/-! ### Arguments, read -/
/-- Numbers of their kinds. -/
def K.wf : (κ : K) → κ.T → Prop
  | .int k, n => (Lit.int k n).wf = true
  | .pair a b, x => a.wf x.1 ∧ b.wf x.2
  | .sl e, l => ∀ y ∈ l, e.wf y
  | _, _ => True
/-- How much it holds. -/
def K.big : (κ : K) → κ.T → Nat
  | .str, s => s.size
  | .pair a b, x => a.big x.1 + b.big x.2
  | .sl e, l => (l.map fun y => e.big y + 1).sum
  | _, _ => 0
structure BulkOk {H : Type} (bulk : DataW H → Nat) (all : List (DataW H) → Nat) : Prop where
  int : ∀ k n, bulk (.lit (.int k n)) = 1
  bool : ∀ b, bulk (.lit (.bool b)) = 1
  str : ∀ b, bulk (.lit (.string b)) = b.length + 1
  nil : bulk .nil = 1
  slice : ∀ e s, bulk (.slice e s) = all e + all s + 1
  agg : ∀ p, bulk (.agg p) = all p + 1
  anil : all [] = 0
  acons : ∀ d r, all (d :: r) = bulk d + all r

section
variable {H0 : Type} {enc : TypeId × Value → H0} {P : Program} {w : World} {base : Nat} {spare : Nat → Bool} {held : Bool} {Z : CS} {bulk : DataW H0 → Nat} {all : List (DataW H0) → Nat}
theorem cells_n {κ : K} {t : TypeId} (h : TyOk P κ t) : P.cellsOf t = κ.n := by
  obtain ⟨i, h1, h2, _⟩ := h.info
  simp [Program.cellsOf, h1, h2]
theorem cell_spot {a : Addr} {v : Value} (h : w.cell? a = some v) : a.spot = none := by
  unfold World.cell? at h
  split at h
  · split at h
    · cases h
    · rename_i hs
      cases e : a.spot with
      | none => rfl
      | some s => rw [e] at hs; simp at hs
  · cases h
/-- What reads as a row of elements, from element i on. -/
theorem open_row (hZ : ∀ b j v, w.cell? ⟨b, j, none⟩ = some v → Z b j) {e : K} (a0 : Addr) (D : Nat → DataW H0) (hbulk : BulkOk bulk all) :
    ∀ (n i : Nat), (∀ j, j < n → ∃ (cs : List Value) (y : e.T), w.cells? base (a0.add ((i + j) * e.n)) e.n = some cs ∧ H Z w .rd e y cs CS.no ∧ e.wf y ∧ e.big y + 1 ≤ bulk (D (i + j))) →
      ∃ (ys : List e.T) (cs : List Value), ys.length = n ∧ HL (H Z w .rd e) ys cs CS.no ∧ cs.length = n * e.n ∧ (∀ (j : Nat) u, cs[j]? = some u → w.cell? (a0.add (i * e.n + j)) = some u) ∧ (∀ y ∈ ys, e.wf y) ∧ (ys.map fun y => e.big y + 1).sum ≤ all ((List.range' i n).map D)
  | 0, i, _ => ⟨[], [], rfl, rfl, by simp, fun j u h => (by simp at h), fun y h => (by cases h), by simp⟩
  | n + 1, i, h => by
    obtain ⟨cs, y, h1, h2, h3, h4⟩ := h 0 (by omega)
    obtain ⟨ys, cs', k1, k2, k3, k4, k5, k6⟩ := open_row hZ a0 D hbulk n (i + 1) fun j hj => by
      have := h (j + 1) (by omega)
      rwa [show i + (j + 1) = i + 1 + j by omega] at this
    obtain ⟨_, hl, hc⟩ := World.cells?_some h1
    refine ⟨y :: ys, cs ++ cs', by simp [k1], ⟨cs, cs', CS.no, CS.no, rfl, h2, k2, Sep.none _⟩, by simp [hl, k3, Nat.add_mul]; omega, fun j u hj => ?_, fun z hz => ?_, ?_⟩
    · by_cases hlt : j < e.n
      · rw [List.getElem?_append_left (by omega)] at hj
        have := hc j hlt
        rw [hj] at this
        rw [Nat.add_zero] at this
        rwa [Deep.add_add] at this
      · rw [List.getElem?_append_right (by omega), hl] at hj
        have := k4 (j - e.n) u hj
        rwa [show (i + 1) * e.n + (j - e.n) = i * e.n + j by rw [Nat.add_mul]; omega] at this
    · rcases List.mem_cons.1 hz with rfl | hz
      · exact h3
      · exact k5 z hz
    · rw [List.map_cons, List.sum_cons, List.range'_succ, List.map_cons, hbulk.acons]
      simp only [Nat.add_zero] at h4
      omega
theorem open_kind (hZ : ∀ b j v, w.cell? ⟨b, j, none⟩ = some v → Z b j) (hbulk : BulkOk bulk all) : ∀ (κ : K),
    (∀ t fuel cs x, TyOk P κ t → DataW.trod enc P w base spare held fuel t cs = some x → ∃ y : κ.T, H Z w .rd κ y cs CS.no ∧ κ.wf y ∧ κ.big y + 1 ≤ bulk x.1) ∧
    (∀ (fs : List Field) (off n : Nat) (cs : List Value) (xs : List (DataW H0 × List MemPlace)), (TyR P κ).2 fs off → xs.length = fs.length → (∀ (i : Nat) (f : Field), fs[i]? = some f → DataW.trod enc P w base spare held n f.type ((cs.drop f.offset).take (P.cellsOf f.type)) = xs[i]?) →
      ∃ y : κ.T, H Z w .rd κ y ((cs.drop off).take κ.n) CS.no ∧ κ.wf y ∧ κ.big y ≤ all (xs.map (·.1)))
  | .int k => ⟨fun t fuel cs x ht h => by
      obtain ⟨n, rfl, rfl, hw⟩ := DataW.trod_int ht.1 h
      exact ⟨n, by simp [H], hw, by show 0 + 1 ≤ bulk (.lit (.int k n)); rw [hbulk.int]; exact Nat.le_refl _⟩, fun _ _ _ _ _ h => h.elim⟩
  | .bool => ⟨fun t fuel cs x ht h => by
      obtain ⟨b, rfl, rfl⟩ := DataW.trod_bool ht.1 h
      exact ⟨b, by simp [H], trivial, by show 0 + 1 ≤ bulk (.lit (.bool b)); rw [hbulk.bool]; exact Nat.le_refl _⟩, fun _ _ _ _ _ h => h.elim⟩
  | .str => ⟨fun t fuel cs x ht h => by
      obtain ⟨s, rfl, rfl, hs⟩ := DataW.trod_string ht.1 h
      exact ⟨s, by simp [H], trivial, by show s.size + 1 ≤ bulk (.lit (.string s.data.toList)); rw [hbulk.str]; simp⟩, fun _ _ _ _ _ h => h.elim⟩
  | .unit => ⟨fun _ _ _ _ h => h.elim, fun fs off n cs xs hf hl h => ⟨(), by simp [H, K.n], trivial, Nat.zero_le _⟩⟩
  | .pair a b => by
    have two : ∀ (fs : List Field) (off n : Nat) (cs : List Value) (xs : List (DataW H0 × List MemPlace)), (TyR P (.pair a b)).2 fs off → xs.length = fs.length → (∀ (i : Nat) (f : Field), fs[i]? = some f → DataW.trod enc P w base spare held n f.type ((cs.drop f.offset).take (P.cellsOf f.type)) = xs[i]?) →
        ∃ y : (K.pair a b).T, H Z w .rd (.pair a b) y ((cs.drop off).take (K.pair a b).n) CS.no ∧ (K.pair a b).wf y ∧ (K.pair a b).big y ≤ all (xs.map (·.1)) := fun fs off n cs xs hf hl h => by
      obtain ⟨f, r, rfl, h1, h2, h3, h4⟩ := hf
      match xs, hl with
      | x :: xs, hl =>
        have h0 := h 0 f rfl
        rw [cells_n h3, h1] at h0
        obtain ⟨y1, k1, k2, k3⟩ := (open_kind hZ hbulk a).1 _ _ _ _ h3 h0
        obtain ⟨y2, k4, k5, k6⟩ := (open_kind hZ hbulk b).2 r (off + a.n) n cs xs h4 (by simpa using hl) fun i f' hi => by
          have := h (i + 1) f' (by simpa using hi)
          simpa using this
        refine ⟨(y1, y2), ⟨_, _, CS.no, CS.no, ?_, k1, k4, Sep.none _⟩, ⟨k2, k5⟩, ?_⟩
        · simp only [K.n]
          rw [List.take_add, List.drop_drop]
        · rw [List.map_cons, hbulk.acons]
          simp only [K.big]
          omega
    refine ⟨fun t fuel cs x ht h => ?_, two⟩
    obtain ⟨fs, f, r, h1, hinfo, h2, h3, h4, h5, h6⟩ := ht
    have hcell : P.cellsOf t = a.n + b.n := by
      obtain ⟨i, k1, k2, _⟩ := hinfo
      simp [Program.cellsOf, k1, k2]
    obtain ⟨xs, n, rfl, rfl, hl, hxl, hx⟩ := DataW.trod_struct h1 h
    obtain ⟨y, k1, k2, k3⟩ := two fs.toList 0 n cs xs ⟨f, r, h2, h3, h4, h5, by simpa using h6⟩ (by simpa using hxl) fun i f' hi => hx i f' (by simpa using hi)
    refine ⟨y, ?_, k2, by show _ ≤ bulk (.agg (xs.map (·.1))); rw [hbulk.agg]; omega⟩
    rw [List.drop_zero, List.take_of_length_le (by rw [hl, hcell]; exact Nat.le_refl _)] at k1
    exact k1
  | .sl e => ⟨fun t fuel cs x ht h => by
      obtain ⟨t', h1, h2, h3⟩ := TyOk.slice ht
      have hc := cells_n h3
      rcases Deep.open_slice h1 h with ⟨rfl, rfl⟩ | ⟨a0, len, cap, m, n, D, Pl, rfl, hb, hl, hm, hmm, rfl, hx⟩
      · exact ⟨[], ⟨none, 0, rfl, Nat.le_refl _, fun h => absurd h (Nat.lt_irrefl _)⟩, fun y h => (by cases h), by show 0 + 1 ≤ bulk .nil; rw [hbulk.nil]; exact Nat.le_refl _⟩
      · have hlm : len ≤ m := by rw [hmm]; split <;> omega
        obtain ⟨ys, cs, k1, k2, k3, k4, k5, k6⟩ := open_row (base := base) hZ a0 D hbulk (e := e) len 0 fun j hj => by
          obtain ⟨cs', q1, q2⟩ := hx j (by omega)
          obtain ⟨y, q3, q4, q5⟩ := (open_kind hZ hbulk e).1 _ _ _ _ h3 q2
          rw [hc] at q1
          exact ⟨cs', y, by simpa using q1, q3, q4, by simpa using q5⟩
        refine ⟨ys, ⟨some a0, cap, by rw [k1], by omega, fun hp => ?_⟩, k5, ?_⟩
        · have hlen : 0 < cs.length := by rw [k3]; exact Nat.mul_pos (by omega) h2
          obtain ⟨u, hu⟩ : ∃ u, cs[0]? = some u := ⟨cs[0], by simp [hlen]⟩
          have hsp : a0.spot = none := by
            have := cell_spot (k4 0 u hu)
            unfold Addr.add at this
            split at this
            · exact this
            · rename_i hne; simp at hne
          obtain ⟨g, off, sp⟩ := a0
          simp only at hsp
          subst hsp
          refine ⟨g, off, cs, rfl, k2, fun j u hj => ?_⟩
          have := k4 j u hj
          rw [addr_add, Nat.zero_mul, Nat.zero_add] at this
          exact ⟨hZ _ _ _ this, this⟩
        · show (ys.map fun y => e.big y + 1).sum + 1 ≤ bulk (.slice _ _)
          rw [hbulk.slice]
          rw [List.range_eq_range']
          omega, fun _ _ _ _ _ h => h.elim⟩
/-- All old memory. -/
def Old (w : World) : CS := fun b _ => b < w.heap.size
theorem Old.cell {w : World} {b j : Nat} {v : Value} (h : w.cell? ⟨b, j, none⟩ = some v) : Old w b j := by
  obtain ⟨_, _, _, hb, _⟩ := heap_of_cell? h
  exact lt_of_heap hb
theorem open_arg {r : Reach} {b0 : Nat} (hbulk : BulkOk bulk all) {κ : K} {t : TypeId} (ht : TyOk P κ t) {v : Value} {d : DataW H0} {p : List MemPlace} (hv : Value.okWide P w r b0 t v) (h : DataW.Trod enc P w base spare held t v d p) :
    ∃ (y : κ.T) (us : List Value), pk κ us v ∧ H (Old w) w .rd κ y us CS.no ∧ κ.wf y ∧ κ.big y + 1 ≤ bulk d := by
  obtain ⟨fuel, hf⟩ := h
  obtain ⟨y, h1, h2, h3⟩ := (open_kind (fun b j v hc => Old.cell hc) hbulk κ).1 t fuel _ _ ht hf
  refine ⟨y, v.cells.toList, ?_, h1, h2, h3⟩
  unfold pk
  cases hk : κ.agg with
  | true =>
    cases κ with
    | pair a b =>
      obtain ⟨fs, f, _, k1, _⟩ := ht
      obtain ⟨cs, rfl, _⟩ := okWide_struct k1 hv
      simp [Value.cells]
    | unit => exact ht.elim
    | _ => cases hk
  | false =>
    have hn := agg_cells hk
    have hl := H.len _ _ _ _ _ h1
    rw [hn] at hl
    simp only [Bool.false_eq_true, if_false]
    have h1' := H.one _ _ _ _ _ h1
    cases v with
    | agg cs =>
      cases κ with
      | int k => obtain ⟨n, hn⟩ := okWide_int ht.1 hv; cases hn
      | bool => obtain ⟨n, hn⟩ := okWide_bool ht.1 hv; cases hn
      | str => obtain ⟨n, hn⟩ := okWide_string ht.1 hv; cases hn
      | sl e => obtain ⟨t', h2, _⟩ := TyOk.slice ht; obtain ⟨_, _, _, hn⟩ := okWide_slice h2 hv; cases hn
      | unit => cases hk
      | pair a b => cases hk
    | tuple cs =>
      cases κ with
      | int k => obtain ⟨n, hn⟩ := okWide_int ht.1 hv; cases hn
      | bool => obtain ⟨n, hn⟩ := okWide_bool ht.1 hv; cases hn
      | str => obtain ⟨n, hn⟩ := okWide_string ht.1 hv; cases hn
      | sl e => obtain ⟨t', h2, _⟩ := TyOk.slice ht; obtain ⟨_, _, _, hn⟩ := okWide_slice h2 hv; cases hn
      | unit => cases hk
      | pair a b => cases hk
    | _ => rfl
theorem BulkOk.le {bulk : DataW H0 → Nat} {all : List (DataW H0) → Nat} (h : BulkOk bulk all) : ∀ (l : List (DataW H0)) (d : DataW H0), d ∈ l → bulk d ≤ all l
  | x :: l, d, hd => by
    rw [h.acons]
    rcases List.mem_cons.1 hd with rfl | hd
    · exact Nat.le_add_right _ _
    · exact Nat.le_trans (h.le l d hd) (Nat.le_add_left _ _)
theorem Agr.below {w w' : World} (h : Agr CS.no w w') : Below w.heap.size w w' := ⟨h.os, h.tape, h.output, h.size, fun _ hk => h.whole hk⟩
end

/-! ### Functions, one after another -/
def FnsL (P : Program) (k : Nat) : List (Nat × FEnt) → Prop
  | [] => True
  | x :: r => Contract P x.1 x.2.sg (x.2.F k) ∧ FnsL P k r
theorem FnsL.get {P : Program} {k : Nat} : ∀ {l : List (Nat × FEnt)}, FnsL P k l → ∀ f ent, findO l f = some ent → Contract P f ent.sg (ent.F k)
  | (j, x) :: r, h, f, ent, hf => by
    simp only [findO] at hf
    cases e : Nat.beq j f with
    | true =>
      rw [e] at hf
      cases hf
      have := Nat.eq_of_beq_eq_true e
      subst this
      exact h.1
    | false =>
      rw [e] at hf
      exact FnsL.get h.2 f ent hf
theorem ok_of {P : Program} {E : Env} {k : Nat} (hT : TysOk P E) (hQ : EqsOk P E) (hN : FnsL P k E.fns) {f : FuncId} {fn : Func} (hf : P.funcs[f]? = some fn) (hb : fn.body.isSome = true) (hname : (fn.name == "runtime.NumGoroutine") = false) {sg : Sig} {hd : Hints} {ls : List (Nat × Lp sg.Out)} (hl : LoopsOk E k hd ls (loopsOf (fn.body.getD .skip)))
    {F : Sig.In sg.ps → Option sg.Out} (hF : ∀ x, denFn E k fn sg hd (runL k hd ls) x = F x) : Contract P f sg F := by
  cases hbd : fn.body with
  | none => rw [hbd] at hb; cases hb
  | some c =>
    rw [hbd] at hl
    exact contract_of ⟨hT, hQ, hN.get⟩ hf hbd hname hl hF
/-- What a law's contract says of a call. -/
theorem law_of {P : Program} {f : FuncId} {ps : List PM} {q : Q} {F : Sig.In ps → Option (Sig.Out ⟨ps, [(.bool, q)]⟩)} (hC : Contract P f ⟨ps, [(.bool, q)]⟩ F) {x : Sig.In ps} {y : Sig.OutP ps} (hx : F x = some ((true, ()), y)) {w : World} {vs : List Value} (hA : ArgsR P (Old w) CS.no w ps x vs CS.no) :
    Calls P f vs.toArray w fun e w' => e = .returned (.bool true) ∧ Below w.heap.size w w' := by
  obtain ⟨fn, _, _, _, h⟩ := hC
  refine (h x _ hx w (Old w) CS.no vs (fun b j hb => hb) (fun _ _ t => t.elim) (CS.no_apart _) hA).mono fun e w' ⟨v, rv, Z', T1, T2, he, hE⟩ => ?_
  obtain ⟨v', us, r, T3, T4, e1, hp, hh, hr, _⟩ := hE.res
  simp only [ResR] at hr
  subst hr
  refine ⟨?_, hE.agr.below⟩
  rw [he, hE.v, e1]
  have : us = [.bool true] := by cases q <;> simpa only [H] using hh
  subst this
  have : [Value.bool true] = [v'] := hp
  rw [show v' = .bool true from (List.cons.inj this).1.symm]
  rfl
end Go.Dn
/- Plain lemmas about what the generated functions are made of. -/
set_option linter.unusedVariables false
namespace Go.Dn

theorem share_eq {β ρ : Type} (a : β) (k : β → Option ρ) : Go.Dn.share a k = k a := rfl
theorem w64 {n : Int} (h1 : -9223372036854775808 ≤ n) (h2 : n ≤ 9223372036854775807) : IntKind.wrap .i64 n = n := IntWalk.i64_in n ⟨h1, h2⟩
theorem w8 {n : Int} (h1 : 0 ≤ n) (h2 : n ≤ 255) : IntKind.wrap .u8 n = n := IntWalk.u8_in n ⟨h1, h2⟩
theorem w8_mod (n : Int) : IntKind.wrap .u8 n = n % 256 := by rw [IntKind.wrap_u8]
theorem w8_wf (n : Int) : 0 ≤ IntKind.wrap .u8 n ∧ IntKind.wrap .u8 n ≤ 255 := by rw [w8_mod]; omega
theorem wu64 {n : Int} (h1 : 0 ≤ n) (h2 : n ≤ 18446744073709551615) : IntKind.wrap .u64 n = n := by
  simp [IntKind.wrap, IntKind.bits, IntKind.signed]; omega
theorem inB_eq {i : Int} {n : Nat} (h1 : 0 ≤ i) (h2 : i < n) : inB i n = true := by simp [inB, h1, h2]
theorem inBn {i n : Nat} (h : i < n) : inB (i : Int) (n : Int) = true := by simp [inB, h]
theorem roomy_ok {n b : Nat} (h : n * b ≤ 140737488355328) : roomy n b = true := Nat.ble_eq_true_of_le h
theorem roomy_le {n b : Nat} (N : Nat) (h : n ≤ N) (hN : N * b ≤ 140737488355328) : roomy n b = true := roomy_ok (Nat.le_trans (Nat.mul_le_mul_right b h) hN)
theorem lit_i64 {n : Int} (h : (Lit.int .i64 n).wf = true) : -9223372036854775808 ≤ n ∧ n ≤ 9223372036854775807 := by
  simpa [Lit.wf, IntKind.min, IntKind.max, IntKind.signed, IntKind.bits] using h
theorem lit_u8 {n : Int} (h : (Lit.int .u8 n).wf = true) : 0 ≤ n ∧ n ≤ 255 := by
  simpa [Lit.wf, IntKind.min, IntKind.max, IntKind.signed, IntKind.bits] using h

/-! ### Loops -/
/-- A loop that counts up, with an invariant. -/
theorem loop_up {σ ρ : Type} {len : Nat} (L : Nat → Int → σ → Option ρ) (P : Nat → σ → Prop) (R : Nat → σ → Option ρ)
    (hend : ∀ n s, P len s → L (n + 1) (len : Int) s = R len s)
    (hstep : ∀ n i s, i < len → P i s → L (n + 1) (i : Int) s = R i s ∨ ∃ s', L (n + 1) (i : Int) s = L n ((i + 1 : Nat) : Int) s' ∧ P (i + 1) s' ∧ R i s = R (i + 1) s') :
    ∀ n i s, i ≤ len → P i s → len - i < n → L n (i : Int) s = R i s := by
  intro n
  induction n with
  | zero => intro i s _ _ h; omega
  | succ n ih =>
    intro i s hi hP hn
    by_cases e : i = len
    · subst e; exact hend n s hP
    · rcases hstep n i s (by omega) hP with h | ⟨s', h1, h2, h3⟩
      · exact h
      · rw [h1, h3]; exact ih (i + 1) s' (by omega) h2 (by omega)
/-- The same, to one end. -/
theorem loop_inv {σ ρ : Type} {len : Nat} (L : Nat → Int → σ → Option ρ) (P : Nat → σ → Prop) (E : Option ρ)
    (hend : ∀ n s, P len s → L (n + 1) (len : Int) s = E)
    (hstep : ∀ n i s, i < len → P i s → ∃ s', L (n + 1) (i : Int) s = L n ((i + 1 : Nat) : Int) s' ∧ P (i + 1) s') :
    ∀ n i s, i ≤ len → P i s → len - i < n → L n (i : Int) s = E :=
  loop_up L P (fun _ _ => E) hend fun n i s hi hP => by
    obtain ⟨s', h1, h2⟩ := hstep n i s hi hP
    exact .inr ⟨s', h1, h2, rfl⟩
theorem next_i {i : Nat} (h : i < 4611686018427387904) : IntKind.wrap .i64 ((i : Int) + 1) = ((i + 1 : Nat) : Int) := by
  rw [w64 (by omega) (by omega)]; omega
theorem lt_dec {i n : Nat} (h : i < n) : decide ((i : Int) < (n : Int)) = true := decide_eq_true (by omega)
theorem lt_dec_f (n : Nat) : decide ((n : Int) < (n : Int)) = false := decide_eq_false (by omega)
theorem ge_dec {i n : Nat} (h : ¬ i < n) : decide ((i : Int) < (n : Int)) = false := decide_eq_false (by omega)

/-! ### Sizes -/
theorem big_mem {e : K} : ∀ {l : List e.T} {y : e.T}, y ∈ l → e.big y + 1 ≤ K.big (.sl e) l
  | x :: l, y, h => by
    simp only [K.big, List.map_cons, List.sum_cons]
    rcases List.mem_cons.1 h with rfl | h
    · omega
    · have := big_mem h
      simp only [K.big] at this
      omega
theorem big_len {e : K} : ∀ (l : List e.T), l.length ≤ K.big (.sl e) l
  | [] => Nat.zero_le _
  | x :: l => by
    have := big_len l
    simp only [K.big, List.map_cons, List.sum_cons, List.length_cons] at this ⊢
    omega
theorem big_int (k : IntKind) (l : List Int) : K.big (.sl (.int k)) l = l.length := by
  induction l with
  | nil => rfl
  | cons x l ih => simp only [K.big, List.map_cons, List.sum_cons, List.length_cons] at ih ⊢; omega
theorem getD_get {α : Type} {l : List α} {i : Nat} (d : α) (h : i < l.length) : l.getD (Int.toNat (i : Int)) d = l[i] := by
  simp [List.getD, h]
theorem set_keep {α : Type} {l ys : List α} {i : Nat} {v : α} (hl : l.length = ys.length) (hi : i < ys.length) (hp : ∀ j, j < i → l[j]? = ys[j]?) (hv : ys[i]? = some v) : (l.set i v).length = ys.length ∧ ∀ j, j < i + 1 → (l.set i v)[j]? = ys[j]? := by
  refine ⟨by simpa using hl, fun j hj => ?_⟩
  by_cases e : j = i
  · subst e; rw [List.getElem?_set_self (by omega), hv]
  · rw [List.getElem?_set_ne (fun h => e h.symm)]; exact hp j (by omega)
theorem all_eq {α : Type} {l ys : List α} (hl : l.length = ys.length) (h : ∀ j, j < ys.length → l[j]? = ys[j]?) : l = ys := by
  refine List.ext_getElem? fun j => ?_
  by_cases hj : j < ys.length
  · exact h j hj
  · rw [List.getElem?_eq_none (by omega), List.getElem?_eq_none (by omega)]
theorem bigp (a b : K) (x : (K.pair a b).T) : (K.pair a b).big x = a.big x.1 + b.big x.2 := rfl
theorem bigi (k : IntKind) (x : Int) : (K.int k).big x = 0 := rfl
theorem bigb (x : Bool) : K.bool.big x = 0 := rfl
theorem bigu (x : Unit) : K.unit.big x = 0 := rfl
theorem bigs (x : ByteArray) : K.str.big x = x.size := rfl
/-- No string, no slice in it. -/
def K.plainB : K → Bool
  | .int _ => true
  | .bool => true
  | .unit => true
  | .pair a b => a.plainB && b.plainB
  | _ => false
theorem plain_big : ∀ (κ : K) (x : κ.T), κ.plainB = true → κ.big x = 0
  | .int _, _, _ => rfl
  | .bool, _, _ => rfl
  | .unit, _, _ => rfl
  | .pair a b, x, h => by
    simp only [K.plainB, Bool.and_eq_true] at h
    simp only [K.big, plain_big a x.1 h.1, plain_big b x.2 h.2]
  | .str, _, h => by cases h
  | .sl _, _, h => by cases h
theorem flat_big {e : K} (h : e.plainB = true) (l : List e.T) : K.big (.sl e) l = l.length := by
  induction l with
  | nil => rfl
  | cons x l ih => simp only [K.big, List.map_cons, List.sum_cons, List.length_cons, plain_big e x h] at ih ⊢; omega
/-- Numbers from k on. -/
def upto (f : Int → Int) (k : Int) : Nat → List Int
  | 0 => []
  | n + 1 => f k :: upto f (k + 1) n
theorem upto_len (f : Int → Int) : ∀ (n : Nat) (k : Int), (upto f k n).length = n
  | 0, _ => rfl
  | n + 1, k => by simp [upto, upto_len f n]
theorem upto_get (f : Int → Int) : ∀ (n : Nat) (k : Int) (i : Nat), i < n → (upto f k n)[i]? = some (f (k + i))
  | 0, _, i, h => by omega
  | n + 1, k, 0, h => by simp [upto]
  | n + 1, k, i + 1, h => by
    simp only [upto, List.getElem?_cons_succ]
    rw [upto_get f n (k + 1) i (by omega)]
    congr 2
    omega
theorem next_k {k : Int} {i : Nat} (h0 : 0 ≤ k) (h : k ≤ 1152921504606846976) (hi : i ≤ 1152921504606846976) : IntKind.wrap .i64 (k + (i : Int) + 1) = k + ((i + 1 : Nat) : Int) := by
  rw [w64 (by omega) (by omega)]; omega
end Go.Dn
set_option linter.unusedVariables false
set_option maxRecDepth 100000
namespace Go.Proofs.Ythnidahfdnnboaa
open Go Go.Dn
def kerrorAddressString : K := (.pair .str (.pair (.int .u64) .unit))
def kPrefix : K := (.pair (.int .i64) (.pair (.int .i64) .unit))
def kl1Src : K := (.pair (.sl (.int .u8)) (.pair (.int .i64) .unit))
def kConfig : K := (.pair (.int .i64) kPrefix)
def kFrame : K := (.pair (.int .i64) (.pair (.sl (.int .u8)) .unit))
def kboundsError : K := (.pair (.int .i64) (.pair (.int .i64) (.pair .bool (.pair (.int .u8) .unit))))
def kEvent : K := (.pair (.int .i64) kFrame)
def kAttrs : K := (.pair (.int .i64) (.pair (.sl (.int .i64)) kConfig))
def kWire : K := (.pair (.int .i64) (.pair (.sl (.int .u8)) kFrame))
def kSession : K := (.pair (.int .i64) (.pair (.int .i64) kConfig))
def kEntry : K := (.pair (.int .i64) (.pair kEvent .unit))
def kTold : K := (.pair kPrefix (.pair kAttrs .unit))
def kRule : K := (.pair kPrefix (.pair (.int .i64) (.pair (.int .i64) (.pair (.int .i64) (.pair .bool kPrefix)))))
def kUpdate : K := (.pair (.sl kPrefix) (.pair .bool (.pair kAttrs (.pair (.sl kPrefix) .unit))))
def kRoute : K := (.pair (.int .i64) kTold)
def kAttrsResult : K := (.pair (.int .i64) (.pair (.int .i64) (.pair kAttrs .unit)))
def kWireResult : K := (.pair (.int .i64) (.pair (.sl (.int .u8)) (.pair kWire .unit)))
def kToldResult : K := (.pair (.int .i64) (.pair (.sl kTold) .unit))
def kRouteResult : K := (.pair (.int .i64) (.pair kRoute .unit))
def kUpdatesResult : K := (.pair (.int .i64) (.pair (.sl kUpdate) .unit))
def kLink : K := (.pair kSession (.pair (.sl (.int .u8)) (.pair (.sl kTold) .unit)))
def kNode : K := (.pair (.int .i64) (.pair .bool (.pair (.int .i64) (.pair (.int .i64) (.pair (.sl kEntry) (.pair (.int .i64) kConfig))))))
def kSettings : K := (.pair kConfig (.pair (.int .i64) (.pair (.sl kRule) (.pair (.sl kRule) .unit))))
def kMail : K := (.pair (.int .i64) (.pair (.int .i64) (.pair (.int .i64) (.pair (.int .i64) (.pair (.int .i64) (.pair .bool (.pair kEntry .unit)))))))
def kRouter : K := (.pair kSettings (.pair (.sl kLink) (.pair (.sl kRoute) .unit)))
def kMessage : K := (.pair (.int .i64) (.pair (.int .i64) (.pair (.int .i64) (.pair (.int .i64) (.pair (.int .i64) (.pair (.int .i64) (.pair kUpdate .unit)))))))
def kRouterResult : K := (.pair (.int .i64) (.pair kRouter (.pair (.sl (.sl (.int .u8))) .unit)))
def kNodeResult : K := (.pair (.int .i64) (.pair kNode (.pair (.sl kMail) .unit)))
def kPair : K := (.pair kSettings (.pair (.sl kNode) (.pair (.sl kWire) (.pair (.sl kMail) (.pair (.sl kEntry) .unit)))))
def kPairResult : K := (.pair (.int .i64) (.pair (.sl (.int .u8)) (.pair kPair .unit)))
def tys : List (Nat × K) := [(2, (.int .i64)), (3, (.int .i64)), (4, .bool), (5, (.int .u8)), (6, (.int .u8)), (7, kboundsError), (8, kboundsError), (9, .str), (10, .str), (11, .str), (12, (.int .u64)), (13, kerrorAddressString), (14, kerrorAddressString), (21, (.int .i32)), (22, (.sl (.int .u8))), (24, (.sl kTold)), (27, (.sl kUpdate)), (28, kUpdatesResult), (29, kUpdatesResult), (32, (.sl kPrefix)), (33, (.sl (.int .i64))), (34, kAttrs), (35, kAttrs), (36, kUpdate), (37, kUpdate), (38, kToldResult), (39, kToldResult), (43, (.sl kEntry)), (44, kNode), (45, kNode), (46, kEvent), (47, kEvent), (48, kEntry), (49, kEntry), (50, kMail), (51, kMail), (54, (.sl kMail)), (55, kNodeResult), (56, kNodeResult), (61, (.sl kRoute)), (62, (.sl kRule)), (66, kPrefix), (67, kPrefix), (68, kRoute), (69, kRoute), (70, kRouteResult), (71, kRouteResult), (73, kTold), (74, kTold), (76, (.sl kEntry)), (77, kNode), (78, kNode), (79, kEvent), (80, kEntry), (81, kEntry), (82, kMail), (83, kMail), (95, (.sl kTold)), (96, (.sl kUpdate)), (107, kConfig), (108, kConfig), (109, (.sl kRule)), (110, kSettings), (111, kSettings), (113, kConfig), (114, kSettings), (115, kSettings), (116, (.sl kNode)), (117, (.sl kWire)), (118, kPair), (119, kPair), (120, kPairResult), (121, kPairResult), (129, (.sl kRoute)), (139, (.sl kNode)), (140, (.sl kWire)), (141, (.sl kMail)), (142, kPair), (143, kPair), (195, kPrefix), (196, kAttrs), (197, kTold), (198, kTold), (200, (.sl kPrefix)), (201, kUpdate), (202, kUpdate), (213, kWire), (214, kWire), (216, (.sl kLink)), (217, kRouter), (218, kRouter), (219, (.sl (.sl (.int .u8)))), (220, kRouterResult), (221, kRouterResult), (228, kRoute), (229, kRoute), (231, kRule), (232, kRule), (234, kRule), (235, kRule), (262, (.sl (.sl kPrefix))), (282, kl1Src), (283, kl1Src), (289, kAttrsResult), (290, kAttrsResult), (313, kWire), (320, (.int .u64)), (321, (.sl (.int .i64))), (348, kMessage), (349, kMessage), (352, (.int .u32)), (355, (.int .u64)), (362, kFrame), (363, kFrame), (374, (.int .u8)), (375, (.int .u8)), (378, (.int .i32)), (379, (.int .i32)), (384, kSession), (385, kSession), (386, kLink), (387, kLink), (391, kWireResult), (392, kWireResult)]
def bys : List (Nat × Nat) := [(22, 1), (24, 72), (27, 112), (32, 16), (33, 8), (43, 48), (54, 96), (61, 80), (62, 64), (76, 48), (95, 72), (96, 112), (109, 64), (116, 88), (117, 64), (129, 80), (139, 88), (140, 64), (141, 96), (200, 16), (216, 88), (219, 24), (262, 24), (321, 8)]
def eqs : List Nat := [67, 108, 113, 195, 385]
theorem tysOk0 : TysOk Try.prog ⟨tys, bys, [], []⟩ := tysB_spec (by kernel_rfl)
theorem tysOk (fns : List (Nat × FEnt)) (es : List Nat) : TysOk Try.prog ⟨tys, bys, fns, es⟩ := tysOk0
theorem eqsOk0 : EqsOk Try.prog ⟨tys, bys, [], eqs⟩ := eqsB_spec tysOk0 (by kernel_rfl)
theorem eqsOk (fns : List (Nat × FEnt)) : EqsOk Try.prog ⟨tys, bys, fns, eqs⟩ := eqsOk0
def spec_l1In.sg : Sig := ⟨[.b (.int .i64), .b (.int .i64), .b (.int .i64)], [(.bool, .rd)]⟩
def spec_l1In.E : Env := ⟨tys, bys, [], eqs⟩
def spec_l1In.F (k : Nat) (x : (Int × (Int × (Int × Unit)))) : Option ((Bool × Unit) × Unit) :=
  bif (decide ((x.1 ≥ x.2.1))) then
  (some (((decide ((x.1 ≤ x.2.2.1))), ()), ()))
  else some ((false, ()), ())
def spec_l1In.hd : Hints := ⟨[], [], [6], [0, 1, 2], []⟩
def spec_l1In.lps (k : Nat) : List (Nat × Lp spec_l1In.sg.Out) := []
theorem spec_l1In.loops (k : Nat) : LoopsOk spec_l1In.E k spec_l1In.hd (spec_l1In.lps k) (loopsOf (Go.Proofs.Try.f121.body.getD .skip)) := trivial
theorem spec_l1In.den (k : Nat) (x : Sig.In spec_l1In.sg.ps) : denFn spec_l1In.E k Go.Proofs.Try.f121 spec_l1In.sg spec_l1In.hd (runL k spec_l1In.hd (spec_l1In.lps k)) x = spec_l1In.F k x := by kernel_rfl
theorem spec_l1In.ok (k : Nat) : Contract Try.prog 121 spec_l1In.sg (spec_l1In.F k) := ok_of (E := spec_l1In.E) (tysOk _ _) (eqsOk _) trivial Try.func121 rfl (by kernel_rfl) (spec_l1In.loops k) (spec_l1In.den k)
def spec_l2Addr.sg : Sig := ⟨[.b (.int .i64)], [(.bool, .rd)]⟩
def spec_l2Addr.E : Env := ⟨tys, bys, [(121, ⟨spec_l1In.sg, spec_l1In.F⟩)], eqs⟩
def spec_l2Addr.F (k : Nat) (x : (Int × Unit)) : Option ((Bool × Unit) × Unit) :=
  (spec_l1In.F k (x.1, (0 : Int), (65535 : Int), ())).bind fun y0 =>
  some y0
def spec_l2Addr.hd : Hints := ⟨[], [], [2], [0], []⟩
def spec_l2Addr.lps (k : Nat) : List (Nat × Lp spec_l2Addr.sg.Out) := []
theorem spec_l2Addr.loops (k : Nat) : LoopsOk spec_l2Addr.E k spec_l2Addr.hd (spec_l2Addr.lps k) (loopsOf (Go.Proofs.Try.f122.body.getD .skip)) := trivial
theorem spec_l2Addr.den (k : Nat) (x : Sig.In spec_l2Addr.sg.ps) : denFn spec_l2Addr.E k Go.Proofs.Try.f122 spec_l2Addr.sg spec_l2Addr.hd (runL k spec_l2Addr.hd (spec_l2Addr.lps k)) x = spec_l2Addr.F k x := by kernel_rfl
theorem spec_l2Addr.ok (k : Nat) : Contract Try.prog 122 spec_l2Addr.sg (spec_l2Addr.F k) := ok_of (E := spec_l2Addr.E) (tysOk _ _) (eqsOk _) ⟨spec_l1In.ok k, trivial⟩ Try.func122 rfl (by kernel_rfl) (spec_l2Addr.loops k) (spec_l2Addr.den k)
def spec_l2Rest.sg : Sig := ⟨[.b (.int .i64)], [((.int .i64), .rd)]⟩
def spec_l2Rest.E : Env := ⟨tys, bys, [], eqs⟩
def spec_l2Rest.F (k : Nat) (x : (Int × Unit)) : Option ((Int × Unit) × Unit) :=
  bif (decide (((IntKind.wrap .u64 (IntKind.wrap .i64 ((16 : Int) - x.1))) < (0 : Int)))) then
  (none)
  else some (((IntKind.wrap .i64 ((Go.Dn.shlV .i64 (1 : Int) (IntKind.wrap .u64 (IntKind.wrap .i64 ((16 : Int) - x.1)))) - (1 : Int))), ()), ())
def spec_l2Rest.hd : Hints := ⟨[], [], [2], [0], []⟩
def spec_l2Rest.lps (k : Nat) : List (Nat × Lp spec_l2Rest.sg.Out) := []
theorem spec_l2Rest.loops (k : Nat) : LoopsOk spec_l2Rest.E k spec_l2Rest.hd (spec_l2Rest.lps k) (loopsOf (Go.Proofs.Try.f270.body.getD .skip)) := trivial
theorem spec_l2Rest.den (k : Nat) (x : Sig.In spec_l2Rest.sg.ps) : denFn spec_l2Rest.E k Go.Proofs.Try.f270 spec_l2Rest.sg spec_l2Rest.hd (runL k spec_l2Rest.hd (spec_l2Rest.lps k)) x = spec_l2Rest.F k x := by kernel_rfl
theorem spec_l2Rest.ok (k : Nat) : Contract Try.prog 270 spec_l2Rest.sg (spec_l2Rest.F k) := ok_of (E := spec_l2Rest.E) (tysOk _ _) (eqsOk _) trivial Try.func270 rfl (by kernel_rfl) (spec_l2Rest.loops k) (spec_l2Rest.den k)
def spec_PrefixFault.sg : Sig := ⟨[.b kPrefix], [((.int .i64), .rd)]⟩
def spec_PrefixFault.E : Env := ⟨tys, bys, [(121, ⟨spec_l1In.sg, spec_l1In.F⟩), (122, ⟨spec_l2Addr.sg, spec_l2Addr.F⟩), (270, ⟨spec_l2Rest.sg, spec_l2Rest.F⟩)], eqs⟩
def spec_PrefixFault.F (k : Nat) (x : ((Int × (Int × Unit)) × Unit)) : Option ((Int × Unit) × Unit) :=
  (spec_l2Addr.F k (x.1.1, ())).bind fun y0 =>
  bif (!y0.1.1) then
  (some (((3 : Int), ()), ()))
  else (spec_l1In.F k (x.1.2.1, (0 : Int), (16 : Int), ())).bind fun y1 =>
    bif (!y1.1.1) then
    (some (((3 : Int), ()), ()))
    else (spec_l2Rest.F k x.1.2).bind fun y2 =>
      bif ((Go.Dn.andV .i64 x.1.1 y2.1.1) != (0 : Int)) then
      (some (((1 : Int), ()), ()))
      else some (((0 : Int), ()), ())
def spec_PrefixFault.hd : Hints := ⟨[], [], [2], [0, 1], [(3, [0, 1, 0, 4, 12, 31, 63])]⟩
def spec_PrefixFault.lps (k : Nat) : List (Nat × Lp spec_PrefixFault.sg.Out) := []
theorem spec_PrefixFault.loops (k : Nat) : LoopsOk spec_PrefixFault.E k spec_PrefixFault.hd (spec_PrefixFault.lps k) (loopsOf (Go.Proofs.Try.f186.body.getD .skip)) := trivial
theorem spec_PrefixFault.den (k : Nat) (x : Sig.In spec_PrefixFault.sg.ps) : denFn spec_PrefixFault.E k Go.Proofs.Try.f186 spec_PrefixFault.sg spec_PrefixFault.hd (runL k spec_PrefixFault.hd (spec_PrefixFault.lps k)) x = spec_PrefixFault.F k x := by kernel_rfl
theorem spec_PrefixFault.ok (k : Nat) : Contract Try.prog 186 spec_PrefixFault.sg (spec_PrefixFault.F k) := ok_of (E := spec_PrefixFault.E) (tysOk _ _) (eqsOk _) ⟨spec_l1In.ok k, spec_l2Addr.ok k, spec_l2Rest.ok k, trivial⟩ Try.func186 rfl (by kernel_rfl) (spec_PrefixFault.loops k) (spec_PrefixFault.den k)
def spec_l3Word.sg : Sig := ⟨[.b (.int .i64)], [(.bool, .rd)]⟩
def spec_l3Word.E : Env := ⟨tys, bys, [(121, ⟨spec_l1In.sg, spec_l1In.F⟩)], eqs⟩
def spec_l3Word.F (k : Nat) (x : (Int × Unit)) : Option ((Bool × Unit) × Unit) :=
  (spec_l1In.F k (x.1, (0 : Int), (65535 : Int), ())).bind fun y0 =>
  some y0
def spec_l3Word.hd : Hints := ⟨[], [], [2], [0], []⟩
def spec_l3Word.lps (k : Nat) : List (Nat × Lp spec_l3Word.sg.Out) := []
theorem spec_l3Word.loops (k : Nat) : LoopsOk spec_l3Word.E k spec_l3Word.hd (spec_l3Word.lps k) (loopsOf (Go.Proofs.Try.f273.body.getD .skip)) := trivial
theorem spec_l3Word.den (k : Nat) (x : Sig.In spec_l3Word.sg.ps) : denFn spec_l3Word.E k Go.Proofs.Try.f273 spec_l3Word.sg spec_l3Word.hd (runL k spec_l3Word.hd (spec_l3Word.lps k)) x = spec_l3Word.F k x := by kernel_rfl
theorem spec_l3Word.ok (k : Nat) : Contract Try.prog 273 spec_l3Word.sg (spec_l3Word.F k) := ok_of (E := spec_l3Word.E) (tysOk _ _) (eqsOk _) ⟨spec_l1In.ok k, trivial⟩ Try.func273 rfl (by kernel_rfl) (spec_l3Word.loops k) (spec_l3Word.den k)
def impl_in.sg : Sig := ⟨[.b (.int .i64), .b (.int .i64), .b (.int .i64)], [(.bool, .rd)]⟩
def impl_in.E : Env := ⟨tys, bys, [], eqs⟩
def impl_in.F (k : Nat) (x : (Int × (Int × (Int × Unit)))) : Option ((Bool × Unit) × Unit) :=
  bif (decide ((x.1 ≥ x.2.1))) then
  (some (((decide ((x.1 ≤ x.2.2.1))), ()), ()))
  else some ((false, ()), ())
def impl_in.hd : Hints := ⟨[], [], [6], [0, 1, 2], []⟩
def impl_in.lps (k : Nat) : List (Nat × Lp impl_in.sg.Out) := []
theorem impl_in.loops (k : Nat) : LoopsOk impl_in.E k impl_in.hd (impl_in.lps k) (loopsOf (Go.Proofs.Try.f102.body.getD .skip)) := trivial
theorem impl_in.den (k : Nat) (x : Sig.In impl_in.sg.ps) : denFn impl_in.E k Go.Proofs.Try.f102 impl_in.sg impl_in.hd (runL k impl_in.hd (impl_in.lps k)) x = impl_in.F k x := by kernel_rfl
theorem impl_in.ok (k : Nat) : Contract Try.prog 102 impl_in.sg (impl_in.F k) := ok_of (E := impl_in.E) (tysOk _ _) (eqsOk _) trivial Try.func102 rfl (by kernel_rfl) (impl_in.loops k) (impl_in.den k)
def impl_isAddr.sg : Sig := ⟨[.b (.int .i64)], [(.bool, .rd)]⟩
def impl_isAddr.E : Env := ⟨tys, bys, [(102, ⟨impl_in.sg, impl_in.F⟩)], eqs⟩
def impl_isAddr.F (k : Nat) (x : (Int × Unit)) : Option ((Bool × Unit) × Unit) :=
  (impl_in.F k (x.1, (0 : Int), (65535 : Int), ())).bind fun y0 =>
  some y0
def impl_isAddr.hd : Hints := ⟨[], [], [2], [0], []⟩
def impl_isAddr.lps (k : Nat) : List (Nat × Lp impl_isAddr.sg.Out) := []
theorem impl_isAddr.loops (k : Nat) : LoopsOk impl_isAddr.E k impl_isAddr.hd (impl_isAddr.lps k) (loopsOf (Go.Proofs.Try.f116.body.getD .skip)) := trivial
theorem impl_isAddr.den (k : Nat) (x : Sig.In impl_isAddr.sg.ps) : denFn impl_isAddr.E k Go.Proofs.Try.f116 impl_isAddr.sg impl_isAddr.hd (runL k impl_isAddr.hd (impl_isAddr.lps k)) x = impl_isAddr.F k x := by kernel_rfl
theorem impl_isAddr.ok (k : Nat) : Contract Try.prog 116 impl_isAddr.sg (impl_isAddr.F k) := ok_of (E := impl_isAddr.E) (tysOk _ _) (eqsOk _) ⟨impl_in.ok k, trivial⟩ Try.func116 rfl (by kernel_rfl) (impl_isAddr.loops k) (impl_isAddr.den k)
def impl_isTwo.sg : Sig := ⟨[.b (.int .i64)], [(.bool, .rd)]⟩
def impl_isTwo.E : Env := ⟨tys, bys, [(102, ⟨impl_in.sg, impl_in.F⟩)], eqs⟩
def impl_isTwo.F (k : Nat) (x : (Int × Unit)) : Option ((Bool × Unit) × Unit) :=
  (impl_in.F k (x.1, (0 : Int), (65535 : Int), ())).bind fun y0 =>
  some y0
def impl_isTwo.hd : Hints := ⟨[], [], [2], [0], []⟩
def impl_isTwo.lps (k : Nat) : List (Nat × Lp impl_isTwo.sg.Out) := []
theorem impl_isTwo.loops (k : Nat) : LoopsOk impl_isTwo.E k impl_isTwo.hd (impl_isTwo.lps k) (loopsOf (Go.Proofs.Try.f193.body.getD .skip)) := trivial
theorem impl_isTwo.den (k : Nat) (x : Sig.In impl_isTwo.sg.ps) : denFn impl_isTwo.E k Go.Proofs.Try.f193 impl_isTwo.sg impl_isTwo.hd (runL k impl_isTwo.hd (impl_isTwo.lps k)) x = impl_isTwo.F k x := by kernel_rfl
theorem impl_isTwo.ok (k : Nat) : Contract Try.prog 193 impl_isTwo.sg (impl_isTwo.F k) := ok_of (E := impl_isTwo.E) (tysOk _ _) (eqsOk _) ⟨impl_in.ok k, trivial⟩ Try.func193 rfl (by kernel_rfl) (impl_isTwo.loops k) (impl_isTwo.den k)
def impl_isSystem.sg : Sig := ⟨[.b (.int .i64)], [(.bool, .rd)]⟩
def impl_isSystem.E : Env := ⟨tys, bys, [(102, ⟨impl_in.sg, impl_in.F⟩)], eqs⟩
def impl_isSystem.F (k : Nat) (x : (Int × Unit)) : Option ((Bool × Unit) × Unit) :=
  (impl_in.F k (x.1, (1 : Int), (65535 : Int), ())).bind fun y0 =>
  some y0
def impl_isSystem.hd : Hints := ⟨[], [], [2], [0], []⟩
def impl_isSystem.lps (k : Nat) : List (Nat × Lp impl_isSystem.sg.Out) := []
theorem impl_isSystem.loops (k : Nat) : LoopsOk impl_isSystem.E k impl_isSystem.hd (impl_isSystem.lps k) (loopsOf (Go.Proofs.Try.f115.body.getD .skip)) := trivial
theorem impl_isSystem.den (k : Nat) (x : Sig.In impl_isSystem.sg.ps) : denFn impl_isSystem.E k Go.Proofs.Try.f115 impl_isSystem.sg impl_isSystem.hd (runL k impl_isSystem.hd (impl_isSystem.lps k)) x = impl_isSystem.F k x := by kernel_rfl
theorem impl_isSystem.ok (k : Nat) : Contract Try.prog 115 impl_isSystem.sg (impl_isSystem.F k) := ok_of (E := impl_isSystem.E) (tysOk _ _) (eqsOk _) ⟨impl_in.ok k, trivial⟩ Try.func115 rfl (by kernel_rfl) (impl_isSystem.loops k) (impl_isSystem.den k)
def impl_PrefixFault.sg : Sig := ⟨[.b kPrefix], [((.int .i64), .rd)]⟩
def impl_PrefixFault.E : Env := ⟨tys, bys, [(102, ⟨impl_in.sg, impl_in.F⟩), (116, ⟨impl_isAddr.sg, impl_isAddr.F⟩)], eqs⟩
def impl_PrefixFault.F (k : Nat) (x : ((Int × (Int × Unit)) × Unit)) : Option ((Int × Unit) × Unit) :=
  (impl_isAddr.F k (x.1.1, ())).bind fun y0 =>
  bif (!y0.1.1) then
  (some (((3 : Int), ()), ()))
  else (impl_in.F k (x.1.2.1, (0 : Int), (16 : Int), ())).bind fun y1 =>
    bif (!y1.1.1) then
    (some (((3 : Int), ()), ()))
    else bif (decide (((IntKind.wrap .i64 ((16 : Int) - x.1.2.1)) < (0 : Int)))) then
      (none)
      else bif ((Go.Dn.andV .i64 x.1.1 (IntKind.wrap .i64 ((Go.Dn.shlV .i64 (1 : Int) (IntKind.wrap .i64 ((16 : Int) - x.1.2.1))) - (1 : Int)))) != (0 : Int)) then
        (some (((1 : Int), ()), ()))
        else some (((0 : Int), ()), ())
def impl_PrefixFault.hd : Hints := ⟨[], [(0, [])], [2], [0, 1], [(3, [0, 1, 0, 4, 12, 28, 60, 127, 255, 511])]⟩
def impl_PrefixFault.lps (k : Nat) : List (Nat × Lp impl_PrefixFault.sg.Out) := []
theorem impl_PrefixFault.loops (k : Nat) : LoopsOk impl_PrefixFault.E k impl_PrefixFault.hd (impl_PrefixFault.lps k) (loopsOf (Go.Proofs.Try.f89.body.getD .skip)) := trivial
theorem impl_PrefixFault.den (k : Nat) (x : Sig.In impl_PrefixFault.sg.ps) : denFn impl_PrefixFault.E k Go.Proofs.Try.f89 impl_PrefixFault.sg impl_PrefixFault.hd (runL k impl_PrefixFault.hd (impl_PrefixFault.lps k)) x = impl_PrefixFault.F k x := by kernel_rfl
theorem impl_PrefixFault.ok (k : Nat) : Contract Try.prog 89 impl_PrefixFault.sg (impl_PrefixFault.F k) := ok_of (E := impl_PrefixFault.E) (tysOk _ _) (eqsOk _) ⟨impl_in.ok k, impl_isAddr.ok k, trivial⟩ Try.func89 rfl (by kernel_rfl) (impl_PrefixFault.loops k) (impl_PrefixFault.den k)
def spec_l10Epoch.sg : Sig := ⟨[.b (.int .i64)], [(.bool, .rd)]⟩
def spec_l10Epoch.E : Env := ⟨tys, bys, [(121, ⟨spec_l1In.sg, spec_l1In.F⟩)], eqs⟩
def spec_l10Epoch.F (k : Nat) (x : (Int × Unit)) : Option ((Bool × Unit) × Unit) :=
  (spec_l1In.F k (x.1, (1 : Int), (1000 : Int), ())).bind fun y0 =>
  some y0
def spec_l10Epoch.hd : Hints := ⟨[], [], [2], [0], []⟩
def spec_l10Epoch.lps (k : Nat) : List (Nat × Lp spec_l10Epoch.sg.Out) := []
theorem spec_l10Epoch.loops (k : Nat) : LoopsOk spec_l10Epoch.E k spec_l10Epoch.hd (spec_l10Epoch.lps k) (loopsOf (Go.Proofs.Try.f211.body.getD .skip)) := trivial
theorem spec_l10Epoch.den (k : Nat) (x : Sig.In spec_l10Epoch.sg.ps) : denFn spec_l10Epoch.E k Go.Proofs.Try.f211 spec_l10Epoch.sg spec_l10Epoch.hd (runL k spec_l10Epoch.hd (spec_l10Epoch.lps k)) x = spec_l10Epoch.F k x := by kernel_rfl
theorem spec_l10Epoch.ok (k : Nat) : Contract Try.prog 211 spec_l10Epoch.sg (spec_l10Epoch.F k) := ok_of (E := spec_l10Epoch.E) (tysOk _ _) (eqsOk _) ⟨spec_l1In.ok k, trivial⟩ Try.func211 rfl (by kernel_rfl) (spec_l10Epoch.loops k) (spec_l10Epoch.den k)
def spec_l7Peer.sg : Sig := ⟨[.b (.int .i64)], [(.bool, .rd)]⟩
def spec_l7Peer.E : Env := ⟨tys, bys, [(121, ⟨spec_l1In.sg, spec_l1In.F⟩)], eqs⟩
def spec_l7Peer.F (k : Nat) (x : (Int × Unit)) : Option ((Bool × Unit) × Unit) :=
  (spec_l1In.F k (x.1, (0 : Int), (2 : Int), ())).bind fun y0 =>
  some y0
def spec_l7Peer.hd : Hints := ⟨[], [], [2], [0], []⟩
def spec_l7Peer.lps (k : Nat) : List (Nat × Lp spec_l7Peer.sg.Out) := []
theorem spec_l7Peer.loops (k : Nat) : LoopsOk spec_l7Peer.E k spec_l7Peer.hd (spec_l7Peer.lps k) (loopsOf (Go.Proofs.Try.f119.body.getD .skip)) := trivial
theorem spec_l7Peer.den (k : Nat) (x : Sig.In spec_l7Peer.sg.ps) : denFn spec_l7Peer.E k Go.Proofs.Try.f119 spec_l7Peer.sg spec_l7Peer.hd (runL k spec_l7Peer.hd (spec_l7Peer.lps k)) x = spec_l7Peer.F k x := by kernel_rfl
theorem spec_l7Peer.ok (k : Nat) : Contract Try.prog 119 spec_l7Peer.sg (spec_l7Peer.F k) := ok_of (E := spec_l7Peer.E) (tysOk _ _) (eqsOk _) ⟨spec_l1In.ok k, trivial⟩ Try.func119 rfl (by kernel_rfl) (spec_l7Peer.loops k) (spec_l7Peer.den k)
def spec_EventFault.sg : Sig := ⟨[.b kEvent], [((.int .i64), .rd)]⟩
def spec_EventFault.E : Env := ⟨tys, bys, [(119, ⟨spec_l7Peer.sg, spec_l7Peer.F⟩), (121, ⟨spec_l1In.sg, spec_l1In.F⟩)], eqs⟩
def spec_EventFault.F (k : Nat) (x : ((Int × (Int × ((List Int) × Unit))) × Unit)) : Option ((Int × Unit) × Unit) :=
  (spec_l1In.F k (x.1.1, (1 : Int), (4 : Int), ())).bind fun y0 =>
  bif (!y0.1.1) then
  (some (((1 : Int), ()), ()))
  else (spec_l7Peer.F k (x.1.2.1, ())).bind fun y1 =>
    bif (!y1.1.1) then
    (some (((3 : Int), ()), ()))
    else bif (x.1.1 == (3 : Int)) then
      (bif (x.1.2.1 != (0 : Int)) then
        (some (((3 : Int), ()), ()))
        else bif (!((decide (((((List.length x.1.2.2.1) : Nat) : Int) > (0 : Int)))) == (x.1.1 == (2 : Int)))) then
          (some (((1 : Int), ()), ()))
          else bif (decide (((((List.length x.1.2.2.1) : Nat) : Int) > (60 : Int)))) then
            (some (((2 : Int), ()), ()))
            else some (((0 : Int), ()), ()))
      else bif (!((decide (((((List.length x.1.2.2.1) : Nat) : Int) > (0 : Int)))) == (x.1.1 == (2 : Int)))) then
        (some (((1 : Int), ()), ()))
        else bif (decide (((((List.length x.1.2.2.1) : Nat) : Int) > (60 : Int)))) then
          (some (((2 : Int), ()), ()))
          else some (((0 : Int), ()), ())
def spec_EventFault.hd : Hints := ⟨[], [], [2], [0, 1], []⟩
def spec_EventFault.lps (k : Nat) : List (Nat × Lp spec_EventFault.sg.Out) := []
theorem spec_EventFault.loops (k : Nat) : LoopsOk spec_EventFault.E k spec_EventFault.hd (spec_EventFault.lps k) (loopsOf (Go.Proofs.Try.f287.body.getD .skip)) := trivial
theorem spec_EventFault.den (k : Nat) (x : Sig.In spec_EventFault.sg.ps) : denFn spec_EventFault.E k Go.Proofs.Try.f287 spec_EventFault.sg spec_EventFault.hd (runL k spec_EventFault.hd (spec_EventFault.lps k)) x = spec_EventFault.F k x := by kernel_rfl
theorem spec_EventFault.ok (k : Nat) : Contract Try.prog 287 spec_EventFault.sg (spec_EventFault.F k) := ok_of (E := spec_EventFault.E) (tysOk _ _) (eqsOk _) ⟨spec_l7Peer.ok k, spec_l1In.ok k, trivial⟩ Try.func287 rfl (by kernel_rfl) (spec_EventFault.loops k) (spec_EventFault.den k)
def spec_EntryFault.sg : Sig := ⟨[.b kEntry], [((.int .i64), .rd)]⟩
def spec_EntryFault.E : Env := ⟨tys, bys, [(211, ⟨spec_l10Epoch.sg, spec_l10Epoch.F⟩), (287, ⟨spec_EventFault.sg, spec_EventFault.F⟩)], eqs⟩
def spec_EntryFault.F (k : Nat) (x : ((Int × ((Int × (Int × ((List Int) × Unit))) × Unit)) × Unit)) : Option ((Int × Unit) × Unit) :=
  (spec_l10Epoch.F k (x.1.1, ())).bind fun y0 =>
  bif (!y0.1.1) then
  (some (((3 : Int), ()), ()))
  else (spec_EventFault.F k x.1.2).bind fun y1 =>
    some y1
def spec_EntryFault.hd : Hints := ⟨[], [], [2], [0, 1], []⟩
def spec_EntryFault.lps (k : Nat) : List (Nat × Lp spec_EntryFault.sg.Out) := []
theorem spec_EntryFault.loops (k : Nat) : LoopsOk spec_EntryFault.E k spec_EntryFault.hd (spec_EntryFault.lps k) (loopsOf (Go.Proofs.Try.f213.body.getD .skip)) := trivial
theorem spec_EntryFault.den (k : Nat) (x : Sig.In spec_EntryFault.sg.ps) : denFn spec_EntryFault.E k Go.Proofs.Try.f213 spec_EntryFault.sg spec_EntryFault.hd (runL k spec_EntryFault.hd (spec_EntryFault.lps k)) x = spec_EntryFault.F k x := by kernel_rfl
theorem spec_EntryFault.ok (k : Nat) : Contract Try.prog 213 spec_EntryFault.sg (spec_EntryFault.F k) := ok_of (E := spec_EntryFault.E) (tysOk _ _) (eqsOk _) ⟨spec_l10Epoch.ok k, spec_EventFault.ok k, trivial⟩ Try.func213 rfl (by kernel_rfl) (spec_EntryFault.loops k) (spec_EntryFault.den k)
def spec_l12Log.sg : Sig := ⟨[.r kNode], [((.int .i64), .rd)]⟩
def spec_l12Log.E : Env := ⟨tys, bys, [(213, ⟨spec_EntryFault.sg, spec_EntryFault.F⟩)], eqs⟩
def spec_l12Log.l4 {ρ : Type} (k : Nat) (c0 : (Int × Unit) → Option ρ) (c1 : Unit → Option ρ) : Nat → (Int × (Bool × (Int × (Int × ((List (Int × ((Int × (Int × ((List Int) × Unit))) × Unit))) × (Int × (Int × (Int × (Int × Unit))))))))) → Int → Option ρ
  | 0 => fun _ _ => none
  | n + 1 => fun x0 x1 => 
    bif (decide ((x1 < (((List.length x0.2.2.2.2.1) : Nat) : Int)))) then
    (bif (Go.Dn.inB x1 (((List.length x0.2.2.2.2.1) : Nat) : Int)) then
      (Go.Dn.share (List.getD x0.2.2.2.2.1 (Int.toNat x1) ((0 : Int), (((0 : Int), ((0 : Int), (([] : List Int), ()))), ()))) fun s0 =>
        (spec_EntryFault.F k (s0, ())).bind fun y1 =>
        bif (y1.1.1 != (0 : Int)) then
        (c0 (y1.1.1, ()))
        else bif (Go.Dn.inB x1 (((List.length x0.2.2.2.2.1) : Nat) : Int)) then
          (Go.Dn.share (List.getD x0.2.2.2.2.1 (Int.toNat x1) ((0 : Int), (((0 : Int), ((0 : Int), (([] : List Int), ()))), ()))) fun s2 =>
            bif (decide ((s2.1 > x0.2.2.2.1))) then
            (c0 ((1 : Int), ()))
            else bif (decide ((x1 > (0 : Int)))) then
              (bif (Go.Dn.inB x1 (((List.length x0.2.2.2.2.1) : Nat) : Int)) then
                (Go.Dn.share (List.getD x0.2.2.2.2.1 (Int.toNat x1) ((0 : Int), (((0 : Int), ((0 : Int), (([] : List Int), ()))), ()))) fun s3 =>
                  bif (Go.Dn.inB (IntKind.wrap .i64 (x1 - (1 : Int))) (((List.length x0.2.2.2.2.1) : Nat) : Int)) then
                  (Go.Dn.share (List.getD x0.2.2.2.2.1 (Int.toNat (IntKind.wrap .i64 (x1 - (1 : Int)))) ((0 : Int), (((0 : Int), ((0 : Int), (([] : List Int), ()))), ()))) fun s4 =>
                    bif (decide ((s3.1 < s4.1))) then
                    (c0 ((1 : Int), ()))
                    else spec_l12Log.l4 k c0 c1 n x0 (IntKind.wrap .i64 (x1 + (1 : Int))))
                  else none)
                else none)
              else spec_l12Log.l4 k c0 c1 n x0 (IntKind.wrap .i64 (x1 + (1 : Int))))
          else none)
      else none)
    else c1 (())
def spec_l12Log.F (k : Nat) (x : ((Int × (Bool × (Int × (Int × ((List (Int × ((Int × (Int × ((List Int) × Unit))) × Unit))) × (Int × (Int × (Int × (Int × Unit))))))))) × Unit)) : Option ((Int × Unit) × Unit) :=
  bif (decide (((((List.length x.1.2.2.2.2.1) : Nat) : Int) > (100 : Int)))) then
  (some (((2 : Int), ()), ()))
  else spec_l12Log.l4 k (fun e5 =>
      some (e5, ())) (fun e6 =>
      some (((0 : Int), ()), ())) k x.1 (0 : Int)
def spec_l12Log.hd : Hints := ⟨[(4, ⟨[0, 3], []⟩)], [(0, []), (1, [0, 3])], [2], [0, 3, 4], [(9, [0, 1, 3, 7, 0, 31, 63, 127, 0, 256, 768, 1792, 4095, 8191, 16383, 32767, 65535, 131071, 262143, 524287, 1048575, 131071, 4194303, 8388607, 16777215, 131071, 33685503, 100794367, 235012095, 131071, 537001983, 2114060287, 4261543935, 8556511231, 17179869183, 34359738367, 68719476735])]⟩
def spec_l12Log.lps (k : Nat) : List (Nat × Lp spec_l12Log.sg.Out) := [(4, ⟨[.x kNode, .i], fun x => (fun x0 x1 => ⟨[(0, .v false [.fel kNode x0 0]), (3, .v false [.int .i64 x1])], [], []⟩) x.1 x.2.1, fun C n x => spec_l12Log.l4 k (fun y => C .ret ((fun y0 => ⟨[(2, .v false [.int .i64 y0])], [], []⟩) y.1)) (fun _ => C (.exit 0) ⟨[], [], []⟩) n x.1 x.2.1⟩)]
theorem spec_l12Log.loops (k : Nat) : LoopsOk spec_l12Log.E k spec_l12Log.hd (spec_l12Log.lps k) (loopsOf (Go.Proofs.Try.f285.body.getD .skip)) := ⟨⟨fun _ _ => rfl, fun _ _ _ => by kernel_rfl, fun _ => ⟨rfl, rfl⟩⟩, trivial⟩
theorem spec_l12Log.den (k : Nat) (x : Sig.In spec_l12Log.sg.ps) : denFn spec_l12Log.E k Go.Proofs.Try.f285 spec_l12Log.sg spec_l12Log.hd (runL k spec_l12Log.hd (spec_l12Log.lps k)) x = spec_l12Log.F k x := by kernel_rfl
theorem spec_l12Log.ok (k : Nat) : Contract Try.prog 285 spec_l12Log.sg (spec_l12Log.F k) := ok_of (E := spec_l12Log.E) (tysOk _ _) (eqsOk _) ⟨spec_EntryFault.ok k, trivial⟩ Try.func285 rfl (by kernel_rfl) (spec_l12Log.loops k) (spec_l12Log.den k)
def spec_l12Fault.sg : Sig := ⟨[.r kNode], [((.int .i64), .rd)]⟩
def spec_l12Fault.E : Env := ⟨tys, bys, [(121, ⟨spec_l1In.sg, spec_l1In.F⟩), (285, ⟨spec_l12Log.sg, spec_l12Log.F⟩)], eqs⟩
def spec_l12Fault.F (k : Nat) (x : ((Int × (Bool × (Int × (Int × ((List (Int × ((Int × (Int × ((List Int) × Unit))) × Unit))) × (Int × (Int × (Int × (Int × Unit))))))))) × Unit)) : Option ((Int × Unit) × Unit) :=
  (spec_l1In.F k (x.1.1, (0 : Int), (1 : Int), ())).bind fun y0 =>
  bif (!y0.1.1) then
  (some (((3 : Int), ()), ()))
  else (spec_l1In.F k (x.1.2.2.1, (0 : Int), (1 : Int), ())).bind fun y1 =>
    bif (!y1.1.1) then
    (some (((3 : Int), ()), ()))
    else (spec_l1In.F k (x.1.2.2.2.1, (0 : Int), (1000 : Int), ())).bind fun y2 =>
      bif (!y2.1.1) then
      (some (((3 : Int), ()), ()))
      else (spec_l12Log.F k x).bind fun y3 =>
        bif (y3.1.1 != (0 : Int)) then
        (some y3)
        else (spec_l1In.F k (x.1.2.2.2.2.2.1, (0 : Int), (((List.length x.1.2.2.2.2.1) : Nat) : Int), ())).bind fun y4 =>
          bif (!y4.1.1) then
          (some (((3 : Int), ()), ()))
          else (spec_l1In.F k (x.1.2.2.2.2.2.2.1, (0 : Int), (((List.length x.1.2.2.2.2.1) : Nat) : Int), ())).bind fun y5 =>
            bif (!y5.1.1) then
            (some (((3 : Int), ()), ()))
            else (spec_l1In.F k (x.1.2.2.2.2.2.2.2.1, (0 : Int), (((List.length x.1.2.2.2.2.1) : Nat) : Int), ())).bind fun y6 =>
              bif (!y6.1.1) then
              (some (((3 : Int), ()), ()))
              else (spec_l1In.F k (x.1.2.2.2.2.2.2.2.2.1, (0 : Int), x.1.2.2.2.2.2.1, ())).bind fun y7 =>
                bif (!y7.1.1) then
                (some (((3 : Int), ()), ()))
                else bif (x.1.2.2.1 == (1 : Int)) then
                  (bif (!x.1.2.1) then
                    (some (((1 : Int), ()), ()))
                    else bif (x.1.2.2.2.1 == (0 : Int)) then
                      (some (((1 : Int), ()), ()))
                      else bif (x.1.2.2.2.2.2.2.1 != (0 : Int)) then
                        (some (((1 : Int), ()), ()))
                        else bif (!(x.1.2.2.1 == (1 : Int))) then
                          (bif (x.1.2.2.2.2.2.2.2.1 != (0 : Int)) then
                            (some (((1 : Int), ()), ()))
                            else bif (!x.1.2.1) then
                              (bif (x.1.2.2.2.2.2.1 != (((List.length x.1.2.2.2.2.1) : Nat) : Int)) then
                                (some (((1 : Int), ()), ()))
                                else bif (x.1.2.2.2.2.2.2.1 != (0 : Int)) then
                                  (some (((1 : Int), ()), ()))
                                  else bif (x.1.2.2.2.2.2.2.2.2.1 != (0 : Int)) then
                                    (some (((1 : Int), ()), ()))
                                    else some (((0 : Int), ()), ()))
                              else some (((0 : Int), ()), ()))
                          else bif (!x.1.2.1) then
                            (bif (x.1.2.2.2.2.2.1 != (((List.length x.1.2.2.2.2.1) : Nat) : Int)) then
                              (some (((1 : Int), ()), ()))
                              else bif (x.1.2.2.2.2.2.2.1 != (0 : Int)) then
                                (some (((1 : Int), ()), ()))
                                else bif (x.1.2.2.2.2.2.2.2.2.1 != (0 : Int)) then
                                  (some (((1 : Int), ()), ()))
                                  else some (((0 : Int), ()), ()))
                            else some (((0 : Int), ()), ()))
                  else bif (!(x.1.2.2.1 == (1 : Int))) then
                    (bif (x.1.2.2.2.2.2.2.2.1 != (0 : Int)) then
                      (some (((1 : Int), ()), ()))
                      else bif (!x.1.2.1) then
                        (bif (x.1.2.2.2.2.2.1 != (((List.length x.1.2.2.2.2.1) : Nat) : Int)) then
                          (some (((1 : Int), ()), ()))
                          else bif (x.1.2.2.2.2.2.2.1 != (0 : Int)) then
                            (some (((1 : Int), ()), ()))
                            else bif (x.1.2.2.2.2.2.2.2.2.1 != (0 : Int)) then
                              (some (((1 : Int), ()), ()))
                              else some (((0 : Int), ()), ()))
                        else some (((0 : Int), ()), ()))
                    else bif (!x.1.2.1) then
                      (bif (x.1.2.2.2.2.2.1 != (((List.length x.1.2.2.2.2.1) : Nat) : Int)) then
                        (some (((1 : Int), ()), ()))
                        else bif (x.1.2.2.2.2.2.2.1 != (0 : Int)) then
                          (some (((1 : Int), ()), ()))
                          else bif (x.1.2.2.2.2.2.2.2.2.1 != (0 : Int)) then
                            (some (((1 : Int), ()), ()))
                            else some (((0 : Int), ()), ()))
                      else some (((0 : Int), ()), ())
def spec_l12Fault.hd : Hints := ⟨[], [], [2], [0, 3, 4, 5], [(7, [0, 1, 3, 7, 0, 31, 63, 127, 255, 511, 1023, 2047, 255, 8191, 16383, 32767, 65535, 131071, 262143, 524287, 1048575, 131071, 4194303, 8388607, 16777215, 33554431, 67108863, 134217727, 268435455, 536870911, 67108863, 1140850687, 3288334335, 7583301631, 17179869183, 34359738367, 68719476735])]⟩
def spec_l12Fault.lps (k : Nat) : List (Nat × Lp spec_l12Fault.sg.Out) := []
theorem spec_l12Fault.loops (k : Nat) : LoopsOk spec_l12Fault.E k spec_l12Fault.hd (spec_l12Fault.lps k) (loopsOf (Go.Proofs.Try.f210.body.getD .skip)) := trivial
theorem spec_l12Fault.den (k : Nat) (x : Sig.In spec_l12Fault.sg.ps) : denFn spec_l12Fault.E k Go.Proofs.Try.f210 spec_l12Fault.sg spec_l12Fault.hd (runL k spec_l12Fault.hd (spec_l12Fault.lps k)) x = spec_l12Fault.F k x := by kernel_rfl
theorem spec_l12Fault.ok (k : Nat) : Contract Try.prog 210 spec_l12Fault.sg (spec_l12Fault.F k) := ok_of (E := spec_l12Fault.E) (tysOk _ _) (eqsOk _) ⟨spec_l1In.ok k, spec_l12Log.ok k, trivial⟩ Try.func210 rfl (by kernel_rfl) (spec_l12Fault.loops k) (spec_l12Fault.den k)
def impl_size_impl_Entry.sg : Sig := ⟨[.b (.sl kEntry)], [((.int .i64), .rd)]⟩
def impl_size_impl_Entry.E : Env := ⟨tys, bys, [], eqs⟩
def impl_size_impl_Entry.F (k : Nat) (x : ((List (Int × ((Int × (Int × ((List Int) × Unit))) × Unit))) × Unit)) : Option ((Int × Unit) × Unit) :=
  some (((((List.length x.1) : Nat) : Int), ()), ())
def impl_size_impl_Entry.hd : Hints := ⟨[], [], [2], [0], []⟩
def impl_size_impl_Entry.lps (k : Nat) : List (Nat × Lp impl_size_impl_Entry.sg.Out) := []
theorem impl_size_impl_Entry.loops (k : Nat) : LoopsOk impl_size_impl_Entry.E k impl_size_impl_Entry.hd (impl_size_impl_Entry.lps k) (loopsOf (Go.Proofs.Try.f94.body.getD .skip)) := trivial
theorem impl_size_impl_Entry.den (k : Nat) (x : Sig.In impl_size_impl_Entry.sg.ps) : denFn impl_size_impl_Entry.E k Go.Proofs.Try.f94 impl_size_impl_Entry.sg impl_size_impl_Entry.hd (runL k impl_size_impl_Entry.hd (impl_size_impl_Entry.lps k)) x = impl_size_impl_Entry.F k x := by kernel_rfl
theorem impl_size_impl_Entry.ok (k : Nat) : Contract Try.prog 94 impl_size_impl_Entry.sg (impl_size_impl_Entry.F k) := ok_of (E := impl_size_impl_Entry.E) (tysOk _ _) (eqsOk _) trivial Try.func94 rfl (by kernel_rfl) (impl_size_impl_Entry.loops k) (impl_size_impl_Entry.den k)
def impl_isNode.sg : Sig := ⟨[.b (.int .i64)], [(.bool, .rd)]⟩
def impl_isNode.E : Env := ⟨tys, bys, [(102, ⟨impl_in.sg, impl_in.F⟩)], eqs⟩
def impl_isNode.F (k : Nat) (x : (Int × Unit)) : Option ((Bool × Unit) × Unit) :=
  (impl_in.F k (x.1, (0 : Int), (1 : Int), ())).bind fun y0 =>
  some y0
def impl_isNode.hd : Hints := ⟨[], [], [2], [0], []⟩
def impl_isNode.lps (k : Nat) : List (Nat × Lp impl_isNode.sg.Out) := []
theorem impl_isNode.loops (k : Nat) : LoopsOk impl_isNode.E k impl_isNode.hd (impl_isNode.lps k) (loopsOf (Go.Proofs.Try.f101.body.getD .skip)) := trivial
theorem impl_isNode.den (k : Nat) (x : Sig.In impl_isNode.sg.ps) : denFn impl_isNode.E k Go.Proofs.Try.f101 impl_isNode.sg impl_isNode.hd (runL k impl_isNode.hd (impl_isNode.lps k)) x = impl_isNode.F k x := by kernel_rfl
theorem impl_isNode.ok (k : Nat) : Contract Try.prog 101 impl_isNode.sg (impl_isNode.F k) := ok_of (E := impl_isNode.E) (tysOk _ _) (eqsOk _) ⟨impl_in.ok k, trivial⟩ Try.func101 rfl (by kernel_rfl) (impl_isNode.loops k) (impl_isNode.den k)
def impl_isEpoch.sg : Sig := ⟨[.b (.int .i64)], [(.bool, .rd)]⟩
def impl_isEpoch.E : Env := ⟨tys, bys, [(102, ⟨impl_in.sg, impl_in.F⟩)], eqs⟩
def impl_isEpoch.F (k : Nat) (x : (Int × Unit)) : Option ((Bool × Unit) × Unit) :=
  (impl_in.F k (x.1, (1 : Int), (1000 : Int), ())).bind fun y0 =>
  some y0
def impl_isEpoch.hd : Hints := ⟨[], [], [2], [0], []⟩
def impl_isEpoch.lps (k : Nat) : List (Nat × Lp impl_isEpoch.sg.Out) := []
theorem impl_isEpoch.loops (k : Nat) : LoopsOk impl_isEpoch.E k impl_isEpoch.hd (impl_isEpoch.lps k) (loopsOf (Go.Proofs.Try.f104.body.getD .skip)) := trivial
theorem impl_isEpoch.den (k : Nat) (x : Sig.In impl_isEpoch.sg.ps) : denFn impl_isEpoch.E k Go.Proofs.Try.f104 impl_isEpoch.sg impl_isEpoch.hd (runL k impl_isEpoch.hd (impl_isEpoch.lps k)) x = impl_isEpoch.F k x := by kernel_rfl
theorem impl_isEpoch.ok (k : Nat) : Contract Try.prog 104 impl_isEpoch.sg (impl_isEpoch.F k) := ok_of (E := impl_isEpoch.E) (tysOk _ _) (eqsOk _) ⟨impl_in.ok k, trivial⟩ Try.func104 rfl (by kernel_rfl) (impl_isEpoch.loops k) (impl_isEpoch.den k)
def impl_isPeer.sg : Sig := ⟨[.b (.int .i64)], [(.bool, .rd)]⟩
def impl_isPeer.E : Env := ⟨tys, bys, [(102, ⟨impl_in.sg, impl_in.F⟩)], eqs⟩
def impl_isPeer.F (k : Nat) (x : (Int × Unit)) : Option ((Bool × Unit) × Unit) :=
  (impl_in.F k (x.1, (0 : Int), (2 : Int), ())).bind fun y0 =>
  some y0
def impl_isPeer.hd : Hints := ⟨[], [], [2], [0], []⟩
def impl_isPeer.lps (k : Nat) : List (Nat × Lp impl_isPeer.sg.Out) := []
theorem impl_isPeer.loops (k : Nat) : LoopsOk impl_isPeer.E k impl_isPeer.hd (impl_isPeer.lps k) (loopsOf (Go.Proofs.Try.f113.body.getD .skip)) := trivial
theorem impl_isPeer.den (k : Nat) (x : Sig.In impl_isPeer.sg.ps) : denFn impl_isPeer.E k Go.Proofs.Try.f113 impl_isPeer.sg impl_isPeer.hd (runL k impl_isPeer.hd (impl_isPeer.lps k)) x = impl_isPeer.F k x := by kernel_rfl
theorem impl_isPeer.ok (k : Nat) : Contract Try.prog 113 impl_isPeer.sg (impl_isPeer.F k) := ok_of (E := impl_isPeer.E) (tysOk _ _) (eqsOk _) ⟨impl_in.ok k, trivial⟩ Try.func113 rfl (by kernel_rfl) (impl_isPeer.loops k) (impl_isPeer.den k)
def impl_EventFault.sg : Sig := ⟨[.b kEvent], [((.int .i64), .rd)]⟩
def impl_EventFault.E : Env := ⟨tys, bys, [(102, ⟨impl_in.sg, impl_in.F⟩), (113, ⟨impl_isPeer.sg, impl_isPeer.F⟩)], eqs⟩
def impl_EventFault.F (k : Nat) (x : ((Int × (Int × ((List Int) × Unit))) × Unit)) : Option ((Int × Unit) × Unit) :=
  (impl_in.F k (x.1.1, (1 : Int), (4 : Int), ())).bind fun y0 =>
  bif (!y0.1.1) then
  (some (((1 : Int), ()), ()))
  else (impl_isPeer.F k (x.1.2.1, ())).bind fun y1 =>
    bif (!y1.1.1) then
    (some (((3 : Int), ()), ()))
    else bif (x.1.1 == (3 : Int)) then
      (bif (x.1.2.1 != (0 : Int)) then
        (some (((3 : Int), ()), ()))
        else bif (!((x.1.1 == (2 : Int)) == (decide (((((List.length x.1.2.2.1) : Nat) : Int) > (0 : Int)))))) then
          (some (((1 : Int), ()), ()))
          else bif (decide (((((List.length x.1.2.2.1) : Nat) : Int) > (60 : Int)))) then
            (some (((2 : Int), ()), ()))
            else some (((0 : Int), ()), ()))
      else bif (!((x.1.1 == (2 : Int)) == (decide (((((List.length x.1.2.2.1) : Nat) : Int) > (0 : Int)))))) then
        (some (((1 : Int), ()), ()))
        else bif (decide (((((List.length x.1.2.2.1) : Nat) : Int) > (60 : Int)))) then
          (some (((2 : Int), ()), ()))
          else some (((0 : Int), ()), ())
def impl_EventFault.hd : Hints := ⟨[], [(0, [])], [2], [0, 1], []⟩
def impl_EventFault.lps (k : Nat) : List (Nat × Lp impl_EventFault.sg.Out) := []
theorem impl_EventFault.loops (k : Nat) : LoopsOk impl_EventFault.E k impl_EventFault.hd (impl_EventFault.lps k) (loopsOf (Go.Proofs.Try.f217.body.getD .skip)) := trivial
theorem impl_EventFault.den (k : Nat) (x : Sig.In impl_EventFault.sg.ps) : denFn impl_EventFault.E k Go.Proofs.Try.f217 impl_EventFault.sg impl_EventFault.hd (runL k impl_EventFault.hd (impl_EventFault.lps k)) x = impl_EventFault.F k x := by kernel_rfl
theorem impl_EventFault.ok (k : Nat) : Contract Try.prog 217 impl_EventFault.sg (impl_EventFault.F k) := ok_of (E := impl_EventFault.E) (tysOk _ _) (eqsOk _) ⟨impl_in.ok k, impl_isPeer.ok k, trivial⟩ Try.func217 rfl (by kernel_rfl) (impl_EventFault.loops k) (impl_EventFault.den k)
def impl_EntryFault.sg : Sig := ⟨[.b kEntry], [((.int .i64), .rd)]⟩
def impl_EntryFault.E : Env := ⟨tys, bys, [(104, ⟨impl_isEpoch.sg, impl_isEpoch.F⟩), (217, ⟨impl_EventFault.sg, impl_EventFault.F⟩)], eqs⟩
def impl_EntryFault.F (k : Nat) (x : ((Int × ((Int × (Int × ((List Int) × Unit))) × Unit)) × Unit)) : Option ((Int × Unit) × Unit) :=
  (impl_isEpoch.F k (x.1.1, ())).bind fun y0 =>
  bif (!y0.1.1) then
  (some (((3 : Int), ()), ()))
  else (impl_EventFault.F k x.1.2).bind fun y1 =>
    some y1
def impl_EntryFault.hd : Hints := ⟨[], [], [2], [0, 1], []⟩
def impl_EntryFault.lps (k : Nat) : List (Nat × Lp impl_EntryFault.sg.Out) := []
theorem impl_EntryFault.loops (k : Nat) : LoopsOk impl_EntryFault.E k impl_EntryFault.hd (impl_EntryFault.lps k) (loopsOf (Go.Proofs.Try.f103.body.getD .skip)) := trivial
theorem impl_EntryFault.den (k : Nat) (x : Sig.In impl_EntryFault.sg.ps) : denFn impl_EntryFault.E k Go.Proofs.Try.f103 impl_EntryFault.sg impl_EntryFault.hd (runL k impl_EntryFault.hd (impl_EntryFault.lps k)) x = impl_EntryFault.F k x := by kernel_rfl
theorem impl_EntryFault.ok (k : Nat) : Contract Try.prog 103 impl_EntryFault.sg (impl_EntryFault.F k) := ok_of (E := impl_EntryFault.E) (tysOk _ _) (eqsOk _) ⟨impl_isEpoch.ok k, impl_EventFault.ok k, trivial⟩ Try.func103 rfl (by kernel_rfl) (impl_EntryFault.loops k) (impl_EntryFault.den k)
def impl_NodeFault.sg : Sig := ⟨[.b kNode], [((.int .i64), .rd)]⟩
def impl_NodeFault.E : Env := ⟨tys, bys, [(94, ⟨impl_size_impl_Entry.sg, impl_size_impl_Entry.F⟩), (101, ⟨impl_isNode.sg, impl_isNode.F⟩), (102, ⟨impl_in.sg, impl_in.F⟩), (103, ⟨impl_EntryFault.sg, impl_EntryFault.F⟩)], eqs⟩
def impl_NodeFault.l6 {ρ : Type} (k : Nat) (c0 : (Int × Unit) → Option ρ) (c1 : (Int × (Bool × (Int × (Int × (List (Int × ((Int × (Int × ((List Int) × Unit))) × Unit)) × (Int × (Int × (Int × (Int × Unit))))))))) → Option ρ) : Nat → List (Int × ((Int × (Int × ((List Int) × Unit))) × Unit)) → Int → Int → Int → Bool → Int → Int → List (Int × ((Int × (Int × ((List Int) × Unit))) × Unit)) → Int → Int → Int → Int → Option ρ
  | 0 => fun _ _ _ _ _ _ _ _ _ _ _ _ => none
  | n + 1 => fun x0 x1 x2 x3 x4 x5 x6 x7 x8 x9 x10 x11 => 
    bif (decide ((x2 < x1))) then
    (bif (Go.Dn.inB x2 (((List.length x0) : Nat) : Int)) then
      (Go.Dn.share (List.getD x0 (Int.toNat x2) ((0 : Int), (((0 : Int), ((0 : Int), (([] : List Int), ()))), ()))) fun s3 =>
        (impl_EntryFault.F k (s3, ())).bind fun y4 =>
        bif (y4.1.1 != (0 : Int)) then
        (c0 (y4.1.1, ()))
        else bif (decide ((s3.1 > x6))) then
          (c0 ((1 : Int), ()))
          else bif (decide ((x2 > (0 : Int)))) then
            (bif (Go.Dn.inB (IntKind.wrap .i64 (x2 - (1 : Int))) (((List.length x7) : Nat) : Int)) then
              (Go.Dn.share (List.getD x7 (Int.toNat (IntKind.wrap .i64 (x2 - (1 : Int)))) ((0 : Int), (((0 : Int), ((0 : Int), (([] : List Int), ()))), ()))) fun s5 =>
                bif (decide ((s3.1 < s5.1))) then
                (c0 ((1 : Int), ()))
                else impl_NodeFault.l6 k c0 c1 n x0 x1 (IntKind.wrap .i64 (x2 + (1 : Int))) x3 x4 x5 x6 x7 x8 x9 x10 x11)
              else none)
            else impl_NodeFault.l6 k c0 c1 n x0 x1 (IntKind.wrap .i64 (x2 + (1 : Int))) x3 x4 x5 x6 x7 x8 x9 x10 x11)
      else none)
    else c1 (x3, x4, x5, x6, x7, x8, x9, x10, x11, ())
def impl_NodeFault.F (k : Nat) (x : ((Int × (Bool × (Int × (Int × ((List (Int × ((Int × (Int × ((List Int) × Unit))) × Unit))) × (Int × (Int × (Int × (Int × Unit))))))))) × Unit)) : Option ((Int × Unit) × Unit) :=
  (impl_isNode.F k (x.1.1, ())).bind fun y0 =>
  bif (!y0.1.1) then
  (some (((3 : Int), ()), ()))
  else (impl_in.F k (x.1.2.2.1, (0 : Int), (1 : Int), ())).bind fun y1 =>
    bif (!y1.1.1) then
    (some (((3 : Int), ()), ()))
    else (impl_in.F k (x.1.2.2.2.1, (0 : Int), (1000 : Int), ())).bind fun y2 =>
      bif (!y2.1.1) then
      (some (((3 : Int), ()), ()))
      else bif (decide (((((List.length x.1.2.2.2.2.1) : Nat) : Int) > (100 : Int)))) then
        (some (((2 : Int), ()), ()))
        else impl_NodeFault.l6 k (fun e6 =>
            some (e6, ())) (fun e7 =>
            (impl_size_impl_Entry.F k (e7.2.2.2.2.1, ())).bind fun y8 =>
            (impl_in.F k (e7.2.2.2.2.2.1, (0 : Int), y8.1)).bind fun y9 =>
            bif (!y9.1.1) then
            (some (((3 : Int), ()), ()))
            else (impl_in.F k (e7.2.2.2.2.2.2.1, (0 : Int), y8.1)).bind fun y10 =>
              bif (!y10.1.1) then
              (some (((3 : Int), ()), ()))
              else (impl_in.F k (e7.2.2.2.2.2.2.2.1, (0 : Int), y8.1)).bind fun y11 =>
                bif (!y11.1.1) then
                (some (((3 : Int), ()), ()))
                else (impl_in.F k (e7.2.2.2.2.2.2.2.2.1, (0 : Int), e7.2.2.2.2.2.1, ())).bind fun y12 =>
                  bif (!y12.1.1) then
                  (some (((3 : Int), ()), ()))
                  else bif (e7.2.2.1 == (1 : Int)) then
                    (bif (!e7.2.1) then
                      (some (((1 : Int), ()), ()))
                      else bif (e7.2.2.2.1 == (0 : Int)) then
                        (some (((1 : Int), ()), ()))
                        else bif (e7.2.2.2.2.2.2.1 != (0 : Int)) then
                          (some (((1 : Int), ()), ()))
                          else bif (!(e7.2.2.1 == (1 : Int))) then
                            (bif (e7.2.2.2.2.2.2.2.1 != (0 : Int)) then
                              (some (((1 : Int), ()), ()))
                              else bif (!e7.2.1) then
                                (bif (e7.2.2.2.2.2.1 != y8.1.1) then
                                  (some (((1 : Int), ()), ()))
                                  else bif (e7.2.2.2.2.2.2.1 != (0 : Int)) then
                                    (some (((1 : Int), ()), ()))
                                    else bif (e7.2.2.2.2.2.2.2.2.1 != (0 : Int)) then
                                      (some (((1 : Int), ()), ()))
                                      else some (((0 : Int), ()), ()))
                                else some (((0 : Int), ()), ()))
                            else bif (!e7.2.1) then
                              (bif (e7.2.2.2.2.2.1 != y8.1.1) then
                                (some (((1 : Int), ()), ()))
                                else bif (e7.2.2.2.2.2.2.1 != (0 : Int)) then
                                  (some (((1 : Int), ()), ()))
                                  else bif (e7.2.2.2.2.2.2.2.2.1 != (0 : Int)) then
                                    (some (((1 : Int), ()), ()))
                                    else some (((0 : Int), ()), ()))
                              else some (((0 : Int), ()), ()))
                    else bif (!(e7.2.2.1 == (1 : Int))) then
                      (bif (e7.2.2.2.2.2.2.2.1 != (0 : Int)) then
                        (some (((1 : Int), ()), ()))
                        else bif (!e7.2.1) then
                          (bif (e7.2.2.2.2.2.1 != y8.1.1) then
                            (some (((1 : Int), ()), ()))
                            else bif (e7.2.2.2.2.2.2.1 != (0 : Int)) then
                              (some (((1 : Int), ()), ()))
                              else bif (e7.2.2.2.2.2.2.2.2.1 != (0 : Int)) then
                                (some (((1 : Int), ()), ()))
                                else some (((0 : Int), ()), ()))
                          else some (((0 : Int), ()), ()))
                      else bif (!e7.2.1) then
                        (bif (e7.2.2.2.2.2.1 != y8.1.1) then
                          (some (((1 : Int), ()), ()))
                          else bif (e7.2.2.2.2.2.2.1 != (0 : Int)) then
                            (some (((1 : Int), ()), ()))
                            else bif (e7.2.2.2.2.2.2.2.2.1 != (0 : Int)) then
                              (some (((1 : Int), ()), ()))
                              else some (((0 : Int), ()), ()))
                        else some (((0 : Int), ()), ())) k x.1.2.2.2.2.1 (((List.length x.1.2.2.2.2.1) : Nat) : Int) (0 : Int) x.1.1 x.1.2.1 x.1.2.2.1 x.1.2.2.2.1 x.1.2.2.2.2.1 x.1.2.2.2.2.2.1 x.1.2.2.2.2.2.2.1 x.1.2.2.2.2.2.2.2.1 x.1.2.2.2.2.2.2.2.2.1
def impl_NodeFault.hd : Hints := ⟨[(6, ⟨[1, 31, 32, 33], []⟩)], [(0, [1]), (1, [1]), (2, [1, 31, 32, 33]), (3, [])], [2], [0, 1, 3, 4, 5, 6, 7, 31, 32, 33], [(11, [0, 1, 0, 4, 15, 31, 63, 127, 255, 511, 1023, 511, 2559, 511, 8703, 31231, 63999, 129535, 262143, 524287, 1048575])]⟩
def impl_NodeFault.lps (k : Nat) : List (Nat × Lp impl_NodeFault.sg.Out) := [(6, ⟨[.l kEntry, .i, .i, .i, .b, .i, .i, .l kEntry, .i, .i, .i, .i], fun x => (fun x0 x1 x2 x3 x4 x5 x6 x7 x8 x9 x10 x11 => ⟨[(1, .v false [.box 0 0]), (31, .v false [.fz kEntry x0]), (32, .v false [.int .i64 x1]), (33, .v false [.int .i64 x2])], [(0, .box [.int .i64 x3, .bool x4, .int .i64 x5, .int .i64 x6, .fz kEntry x7, .int .i64 x8, .int .i64 x9, .int .i64 x10, .int .i64 x11])], []⟩) x.1 x.2.1 x.2.2.1 x.2.2.2.1 x.2.2.2.2.1 x.2.2.2.2.2.1 x.2.2.2.2.2.2.1 x.2.2.2.2.2.2.2.1 x.2.2.2.2.2.2.2.2.1 x.2.2.2.2.2.2.2.2.2.1 x.2.2.2.2.2.2.2.2.2.2.1 x.2.2.2.2.2.2.2.2.2.2.2.1, fun C n x => impl_NodeFault.l6 k (fun y => C .ret ((fun y0 => ⟨[(2, .v false [.int .i64 y0])], [], []⟩) y.1)) (fun y => C (.exit 1) ((fun y0 y1 y2 y3 y4 y5 y6 y7 y8 => ⟨[(1, .v false [.box 0 0])], [(0, .box [.int .i64 y0, .bool y1, .int .i64 y2, .int .i64 y3, .fz kEntry y4, .int .i64 y5, .int .i64 y6, .int .i64 y7, .int .i64 y8])], []⟩) y.1 y.2.1 y.2.2.1 y.2.2.2.1 y.2.2.2.2.1 y.2.2.2.2.2.1 y.2.2.2.2.2.2.1 y.2.2.2.2.2.2.2.1 y.2.2.2.2.2.2.2.2.1)) n x.1 x.2.1 x.2.2.1 x.2.2.2.1 x.2.2.2.2.1 x.2.2.2.2.2.1 x.2.2.2.2.2.2.1 x.2.2.2.2.2.2.2.1 x.2.2.2.2.2.2.2.2.1 x.2.2.2.2.2.2.2.2.2.1 x.2.2.2.2.2.2.2.2.2.2.1 x.2.2.2.2.2.2.2.2.2.2.2.1⟩)]
theorem impl_NodeFault.loops (k : Nat) : LoopsOk impl_NodeFault.E k impl_NodeFault.hd (impl_NodeFault.lps k) (loopsOf (Go.Proofs.Try.f22.body.getD .skip)) := ⟨⟨fun _ _ => rfl, fun _ _ _ => by kernel_rfl, fun _ => ⟨rfl, rfl⟩⟩, trivial⟩
theorem impl_NodeFault.den (k : Nat) (x : Sig.In impl_NodeFault.sg.ps) : denFn impl_NodeFault.E k Go.Proofs.Try.f22 impl_NodeFault.sg impl_NodeFault.hd (runL k impl_NodeFault.hd (impl_NodeFault.lps k)) x = impl_NodeFault.F k x := by kernel_rfl
theorem impl_NodeFault.ok (k : Nat) : Contract Try.prog 22 impl_NodeFault.sg (impl_NodeFault.F k) := ok_of (E := impl_NodeFault.E) (tysOk _ _) (eqsOk _) ⟨impl_size_impl_Entry.ok k, impl_isNode.ok k, impl_in.ok k, impl_EntryFault.ok k, trivial⟩ Try.func22 rfl (by kernel_rfl) (impl_NodeFault.loops k) (impl_NodeFault.den k)
def impl_Entry_isZero.sg : Sig := ⟨[.b kEntry], [(.bool, .rd)]⟩
def impl_Entry_isZero.E : Env := ⟨tys, bys, [], eqs⟩
def impl_Entry_isZero.F (k : Nat) (x : ((Int × ((Int × (Int × ((List Int) × Unit))) × Unit)) × Unit)) : Option ((Bool × Unit) × Unit) :=
  bif (x.1.1 == (0 : Int)) then
  (bif (x.1.2.1.1 == (0 : Int)) then
    (bif (x.1.2.1.2.1 == (0 : Int)) then
      (some ((((((List.length x.1.2.1.2.2.1) : Nat) : Int) == (0 : Int)), ()), ()))
      else some ((false, ()), ()))
    else some ((false, ()), ()))
  else some ((false, ()), ())
def impl_Entry_isZero.hd : Hints := ⟨[], [], [2], [0, 1], []⟩
def impl_Entry_isZero.lps (k : Nat) : List (Nat × Lp impl_Entry_isZero.sg.Out) := []
theorem impl_Entry_isZero.loops (k : Nat) : LoopsOk impl_Entry_isZero.E k impl_Entry_isZero.hd (impl_Entry_isZero.lps k) (loopsOf (Go.Proofs.Try.f105.body.getD .skip)) := trivial
theorem impl_Entry_isZero.den (k : Nat) (x : Sig.In impl_Entry_isZero.sg.ps) : denFn impl_Entry_isZero.E k Go.Proofs.Try.f105 impl_Entry_isZero.sg impl_Entry_isZero.hd (runL k impl_Entry_isZero.hd (impl_Entry_isZero.lps k)) x = impl_Entry_isZero.F k x := by kernel_rfl
theorem impl_Entry_isZero.ok (k : Nat) : Contract Try.prog 105 impl_Entry_isZero.sg (impl_Entry_isZero.F k) := ok_of (E := impl_Entry_isZero.E) (tysOk _ _) (eqsOk _) trivial Try.func105 rfl (by kernel_rfl) (impl_Entry_isZero.loops k) (impl_Entry_isZero.den k)
def impl_MailFault.sg : Sig := ⟨[.b kNode, .b kMail], [((.int .i64), .rd)]⟩
def impl_MailFault.E : Env := ⟨tys, bys, [(22, ⟨impl_NodeFault.sg, impl_NodeFault.F⟩), (102, ⟨impl_in.sg, impl_in.F⟩), (103, ⟨impl_EntryFault.sg, impl_EntryFault.F⟩), (104, ⟨impl_isEpoch.sg, impl_isEpoch.F⟩), (105, ⟨impl_Entry_isZero.sg, impl_Entry_isZero.F⟩)], eqs⟩
def impl_MailFault.F (k : Nat) (x : ((Int × (Bool × (Int × (Int × ((List (Int × ((Int × (Int × ((List Int) × Unit))) × Unit))) × (Int × (Int × (Int × (Int × Unit))))))))) × ((Int × (Int × (Int × (Int × (Int × (Bool × ((Int × ((Int × (Int × ((List Int) × Unit))) × Unit)) × Unit))))))) × Unit))) : Option ((Int × Unit) × Unit) :=
  (impl_NodeFault.F k (x.1, ())).bind fun y0 =>
  bif (y0.1.1 != (0 : Int)) then
  (some y0)
  else bif (x.2.1.1 != (1 : Int)) then
    (bif (x.2.1.1 != (2 : Int)) then
      (some (((1 : Int), ()), ()))
      else bif (x.2.1.2.1 != x.1.1) then
        (some (((1 : Int), ()), ()))
        else (impl_isEpoch.F k (x.2.1.2.2.1, ())).bind fun y1 =>
          bif (!y1.1.1) then
          (some (((3 : Int), ()), ()))
          else (impl_in.F k (x.2.1.2.2.2.1, (0 : Int), (100 : Int), ())).bind fun y2 =>
            bif (!y2.1.1) then
            (some (((3 : Int), ()), ()))
            else (impl_in.F k (x.2.1.2.2.2.2.1, (0 : Int), (1000 : Int), ())).bind fun y3 =>
              bif (!y3.1.1) then
              (some (((3 : Int), ()), ()))
              else bif (x.2.1.1 == (2 : Int)) then
                (bif x.2.1.2.2.2.2.2.1 then
                  (some (((1 : Int), ()), ()))
                  else bif (x.2.1.2.2.2.2.1 != (0 : Int)) then
                    (some (((1 : Int), ()), ()))
                    else bif (x.2.1.1 == (1 : Int)) then
                      (bif (!((x.2.1.2.2.2.1 == (0 : Int)) == (x.2.1.2.2.2.2.1 == (0 : Int)))) then
                        (some (((1 : Int), ()), ()))
                        else bif (!x.2.1.2.2.2.2.2.1) then
                          ((impl_Entry_isZero.F k x.2.1.2.2.2.2.2.2).bind fun y4 =>
                            bif (!y4.1.1) then
                            (some (((1 : Int), ()), ()))
                            else bif (decide ((x.2.1.2.2.2.2.1 > x.2.1.2.2.1))) then
                              (some (((1 : Int), ()), ()))
                              else bif (!x.2.1.2.2.2.2.2.1) then
                                (some (((0 : Int), ()), ()))
                                else (impl_EntryFault.F k x.2.1.2.2.2.2.2.2).bind fun y5 =>
                                  bif (y5.1.1 != (0 : Int)) then
                                  (some y5)
                                  else bif (decide ((x.2.1.2.2.2.2.2.2.1.1 > x.2.1.2.2.1))) then
                                    (some (((1 : Int), ()), ()))
                                    else bif (decide ((x.2.1.2.2.2.2.2.2.1.1 < x.2.1.2.2.2.2.1))) then
                                      (some (((1 : Int), ()), ()))
                                      else some (((0 : Int), ()), ()))
                          else bif (decide ((x.2.1.2.2.2.2.1 > x.2.1.2.2.1))) then
                            (some (((1 : Int), ()), ()))
                            else bif (!x.2.1.2.2.2.2.2.1) then
                              (some (((0 : Int), ()), ()))
                              else (impl_EntryFault.F k x.2.1.2.2.2.2.2.2).bind fun y6 =>
                                bif (y6.1.1 != (0 : Int)) then
                                (some y6)
                                else bif (decide ((x.2.1.2.2.2.2.2.2.1.1 > x.2.1.2.2.1))) then
                                  (some (((1 : Int), ()), ()))
                                  else bif (decide ((x.2.1.2.2.2.2.2.2.1.1 < x.2.1.2.2.2.2.1))) then
                                    (some (((1 : Int), ()), ()))
                                    else some (((0 : Int), ()), ()))
                      else bif (!x.2.1.2.2.2.2.2.1) then
                        ((impl_Entry_isZero.F k x.2.1.2.2.2.2.2.2).bind fun y7 =>
                          bif (!y7.1.1) then
                          (some (((1 : Int), ()), ()))
                          else bif (decide ((x.2.1.2.2.2.2.1 > x.2.1.2.2.1))) then
                            (some (((1 : Int), ()), ()))
                            else bif (!x.2.1.2.2.2.2.2.1) then
                              (some (((0 : Int), ()), ()))
                              else (impl_EntryFault.F k x.2.1.2.2.2.2.2.2).bind fun y8 =>
                                bif (y8.1.1 != (0 : Int)) then
                                (some y8)
                                else bif (decide ((x.2.1.2.2.2.2.2.2.1.1 > x.2.1.2.2.1))) then
                                  (some (((1 : Int), ()), ()))
                                  else bif (decide ((x.2.1.2.2.2.2.2.2.1.1 < x.2.1.2.2.2.2.1))) then
                                    (some (((1 : Int), ()), ()))
                                    else some (((0 : Int), ()), ()))
                        else bif (decide ((x.2.1.2.2.2.2.1 > x.2.1.2.2.1))) then
                          (some (((1 : Int), ()), ()))
                          else bif (!x.2.1.2.2.2.2.2.1) then
                            (some (((0 : Int), ()), ()))
                            else (impl_EntryFault.F k x.2.1.2.2.2.2.2.2).bind fun y9 =>
                              bif (y9.1.1 != (0 : Int)) then
                              (some y9)
                              else bif (decide ((x.2.1.2.2.2.2.2.2.1.1 > x.2.1.2.2.1))) then
                                (some (((1 : Int), ()), ()))
                                else bif (decide ((x.2.1.2.2.2.2.2.2.1.1 < x.2.1.2.2.2.2.1))) then
                                  (some (((1 : Int), ()), ()))
                                  else some (((0 : Int), ()), ()))
                else bif (x.2.1.1 == (1 : Int)) then
                  (bif (!((x.2.1.2.2.2.1 == (0 : Int)) == (x.2.1.2.2.2.2.1 == (0 : Int)))) then
                    (some (((1 : Int), ()), ()))
                    else bif (!x.2.1.2.2.2.2.2.1) then
                      ((impl_Entry_isZero.F k x.2.1.2.2.2.2.2.2).bind fun y10 =>
                        bif (!y10.1.1) then
                        (some (((1 : Int), ()), ()))
                        else bif (decide ((x.2.1.2.2.2.2.1 > x.2.1.2.2.1))) then
                          (some (((1 : Int), ()), ()))
                          else bif (!x.2.1.2.2.2.2.2.1) then
                            (some (((0 : Int), ()), ()))
                            else (impl_EntryFault.F k x.2.1.2.2.2.2.2.2).bind fun y11 =>
                              bif (y11.1.1 != (0 : Int)) then
                              (some y11)
                              else bif (decide ((x.2.1.2.2.2.2.2.2.1.1 > x.2.1.2.2.1))) then
                                (some (((1 : Int), ()), ()))
                                else bif (decide ((x.2.1.2.2.2.2.2.2.1.1 < x.2.1.2.2.2.2.1))) then
                                  (some (((1 : Int), ()), ()))
                                  else some (((0 : Int), ()), ()))
                      else bif (decide ((x.2.1.2.2.2.2.1 > x.2.1.2.2.1))) then
                        (some (((1 : Int), ()), ()))
                        else bif (!x.2.1.2.2.2.2.2.1) then
                          (some (((0 : Int), ()), ()))
                          else (impl_EntryFault.F k x.2.1.2.2.2.2.2.2).bind fun y12 =>
                            bif (y12.1.1 != (0 : Int)) then
                            (some y12)
                            else bif (decide ((x.2.1.2.2.2.2.2.2.1.1 > x.2.1.2.2.1))) then
                              (some (((1 : Int), ()), ()))
                              else bif (decide ((x.2.1.2.2.2.2.2.2.1.1 < x.2.1.2.2.2.2.1))) then
                                (some (((1 : Int), ()), ()))
                                else some (((0 : Int), ()), ()))
                  else bif (!x.2.1.2.2.2.2.2.1) then
                    ((impl_Entry_isZero.F k x.2.1.2.2.2.2.2.2).bind fun y13 =>
                      bif (!y13.1.1) then
                      (some (((1 : Int), ()), ()))
                      else bif (decide ((x.2.1.2.2.2.2.1 > x.2.1.2.2.1))) then
                        (some (((1 : Int), ()), ()))
                        else bif (!x.2.1.2.2.2.2.2.1) then
                          (some (((0 : Int), ()), ()))
                          else (impl_EntryFault.F k x.2.1.2.2.2.2.2.2).bind fun y14 =>
                            bif (y14.1.1 != (0 : Int)) then
                            (some y14)
                            else bif (decide ((x.2.1.2.2.2.2.2.2.1.1 > x.2.1.2.2.1))) then
                              (some (((1 : Int), ()), ()))
                              else bif (decide ((x.2.1.2.2.2.2.2.2.1.1 < x.2.1.2.2.2.2.1))) then
                                (some (((1 : Int), ()), ()))
                                else some (((0 : Int), ()), ()))
                    else bif (decide ((x.2.1.2.2.2.2.1 > x.2.1.2.2.1))) then
                      (some (((1 : Int), ()), ()))
                      else bif (!x.2.1.2.2.2.2.2.1) then
                        (some (((0 : Int), ()), ()))
                        else (impl_EntryFault.F k x.2.1.2.2.2.2.2.2).bind fun y15 =>
                          bif (y15.1.1 != (0 : Int)) then
                          (some y15)
                          else bif (decide ((x.2.1.2.2.2.2.2.2.1.1 > x.2.1.2.2.1))) then
                            (some (((1 : Int), ()), ()))
                            else bif (decide ((x.2.1.2.2.2.2.2.2.1.1 < x.2.1.2.2.2.2.1))) then
                              (some (((1 : Int), ()), ()))
                              else some (((0 : Int), ()), ()))
    else bif (x.2.1.2.1 != x.1.1) then
      (some (((1 : Int), ()), ()))
      else (impl_isEpoch.F k (x.2.1.2.2.1, ())).bind fun y16 =>
        bif (!y16.1.1) then
        (some (((3 : Int), ()), ()))
        else (impl_in.F k (x.2.1.2.2.2.1, (0 : Int), (100 : Int), ())).bind fun y17 =>
          bif (!y17.1.1) then
          (some (((3 : Int), ()), ()))
          else (impl_in.F k (x.2.1.2.2.2.2.1, (0 : Int), (1000 : Int), ())).bind fun y18 =>
            bif (!y18.1.1) then
            (some (((3 : Int), ()), ()))
            else bif (x.2.1.1 == (2 : Int)) then
              (bif x.2.1.2.2.2.2.2.1 then
                (some (((1 : Int), ()), ()))
                else bif (x.2.1.2.2.2.2.1 != (0 : Int)) then
                  (some (((1 : Int), ()), ()))
                  else bif (x.2.1.1 == (1 : Int)) then
                    (bif (!((x.2.1.2.2.2.1 == (0 : Int)) == (x.2.1.2.2.2.2.1 == (0 : Int)))) then
                      (some (((1 : Int), ()), ()))
                      else bif (!x.2.1.2.2.2.2.2.1) then
                        ((impl_Entry_isZero.F k x.2.1.2.2.2.2.2.2).bind fun y19 =>
                          bif (!y19.1.1) then
                          (some (((1 : Int), ()), ()))
                          else bif (decide ((x.2.1.2.2.2.2.1 > x.2.1.2.2.1))) then
                            (some (((1 : Int), ()), ()))
                            else bif (!x.2.1.2.2.2.2.2.1) then
                              (some (((0 : Int), ()), ()))
                              else (impl_EntryFault.F k x.2.1.2.2.2.2.2.2).bind fun y20 =>
                                bif (y20.1.1 != (0 : Int)) then
                                (some y20)
                                else bif (decide ((x.2.1.2.2.2.2.2.2.1.1 > x.2.1.2.2.1))) then
                                  (some (((1 : Int), ()), ()))
                                  else bif (decide ((x.2.1.2.2.2.2.2.2.1.1 < x.2.1.2.2.2.2.1))) then
                                    (some (((1 : Int), ()), ()))
                                    else some (((0 : Int), ()), ()))
                        else bif (decide ((x.2.1.2.2.2.2.1 > x.2.1.2.2.1))) then
                          (some (((1 : Int), ()), ()))
                          else bif (!x.2.1.2.2.2.2.2.1) then
                            (some (((0 : Int), ()), ()))
                            else (impl_EntryFault.F k x.2.1.2.2.2.2.2.2).bind fun y21 =>
                              bif (y21.1.1 != (0 : Int)) then
                              (some y21)
                              else bif (decide ((x.2.1.2.2.2.2.2.2.1.1 > x.2.1.2.2.1))) then
                                (some (((1 : Int), ()), ()))
                                else bif (decide ((x.2.1.2.2.2.2.2.2.1.1 < x.2.1.2.2.2.2.1))) then
                                  (some (((1 : Int), ()), ()))
                                  else some (((0 : Int), ()), ()))
                    else bif (!x.2.1.2.2.2.2.2.1) then
                      ((impl_Entry_isZero.F k x.2.1.2.2.2.2.2.2).bind fun y22 =>
                        bif (!y22.1.1) then
                        (some (((1 : Int), ()), ()))
                        else bif (decide ((x.2.1.2.2.2.2.1 > x.2.1.2.2.1))) then
                          (some (((1 : Int), ()), ()))
                          else bif (!x.2.1.2.2.2.2.2.1) then
                            (some (((0 : Int), ()), ()))
                            else (impl_EntryFault.F k x.2.1.2.2.2.2.2.2).bind fun y23 =>
                              bif (y23.1.1 != (0 : Int)) then
                              (some y23)
                              else bif (decide ((x.2.1.2.2.2.2.2.2.1.1 > x.2.1.2.2.1))) then
                                (some (((1 : Int), ()), ()))
                                else bif (decide ((x.2.1.2.2.2.2.2.2.1.1 < x.2.1.2.2.2.2.1))) then
                                  (some (((1 : Int), ()), ()))
                                  else some (((0 : Int), ()), ()))
                      else bif (decide ((x.2.1.2.2.2.2.1 > x.2.1.2.2.1))) then
                        (some (((1 : Int), ()), ()))
                        else bif (!x.2.1.2.2.2.2.2.1) then
                          (some (((0 : Int), ()), ()))
                          else (impl_EntryFault.F k x.2.1.2.2.2.2.2.2).bind fun y24 =>
                            bif (y24.1.1 != (0 : Int)) then
                            (some y24)
                            else bif (decide ((x.2.1.2.2.2.2.2.2.1.1 > x.2.1.2.2.1))) then
                              (some (((1 : Int), ()), ()))
                              else bif (decide ((x.2.1.2.2.2.2.2.2.1.1 < x.2.1.2.2.2.2.1))) then
                                (some (((1 : Int), ()), ()))
                                else some (((0 : Int), ()), ()))
              else bif (x.2.1.1 == (1 : Int)) then
                (bif (!((x.2.1.2.2.2.1 == (0 : Int)) == (x.2.1.2.2.2.2.1 == (0 : Int)))) then
                  (some (((1 : Int), ()), ()))
                  else bif (!x.2.1.2.2.2.2.2.1) then
                    ((impl_Entry_isZero.F k x.2.1.2.2.2.2.2.2).bind fun y25 =>
                      bif (!y25.1.1) then
                      (some (((1 : Int), ()), ()))
                      else bif (decide ((x.2.1.2.2.2.2.1 > x.2.1.2.2.1))) then
                        (some (((1 : Int), ()), ()))
                        else bif (!x.2.1.2.2.2.2.2.1) then
                          (some (((0 : Int), ()), ()))
                          else (impl_EntryFault.F k x.2.1.2.2.2.2.2.2).bind fun y26 =>
                            bif (y26.1.1 != (0 : Int)) then
                            (some y26)
                            else bif (decide ((x.2.1.2.2.2.2.2.2.1.1 > x.2.1.2.2.1))) then
                              (some (((1 : Int), ()), ()))
                              else bif (decide ((x.2.1.2.2.2.2.2.2.1.1 < x.2.1.2.2.2.2.1))) then
                                (some (((1 : Int), ()), ()))
                                else some (((0 : Int), ()), ()))
                    else bif (decide ((x.2.1.2.2.2.2.1 > x.2.1.2.2.1))) then
                      (some (((1 : Int), ()), ()))
                      else bif (!x.2.1.2.2.2.2.2.1) then
                        (some (((0 : Int), ()), ()))
                        else (impl_EntryFault.F k x.2.1.2.2.2.2.2.2).bind fun y27 =>
                          bif (y27.1.1 != (0 : Int)) then
                          (some y27)
                          else bif (decide ((x.2.1.2.2.2.2.2.2.1.1 > x.2.1.2.2.1))) then
                            (some (((1 : Int), ()), ()))
                            else bif (decide ((x.2.1.2.2.2.2.2.2.1.1 < x.2.1.2.2.2.2.1))) then
                              (some (((1 : Int), ()), ()))
                              else some (((0 : Int), ()), ()))
                else bif (!x.2.1.2.2.2.2.2.1) then
                  ((impl_Entry_isZero.F k x.2.1.2.2.2.2.2.2).bind fun y28 =>
                    bif (!y28.1.1) then
                    (some (((1 : Int), ()), ()))
                    else bif (decide ((x.2.1.2.2.2.2.1 > x.2.1.2.2.1))) then
                      (some (((1 : Int), ()), ()))
                      else bif (!x.2.1.2.2.2.2.2.1) then
                        (some (((0 : Int), ()), ()))
                        else (impl_EntryFault.F k x.2.1.2.2.2.2.2.2).bind fun y29 =>
                          bif (y29.1.1 != (0 : Int)) then
                          (some y29)
                          else bif (decide ((x.2.1.2.2.2.2.2.2.1.1 > x.2.1.2.2.1))) then
                            (some (((1 : Int), ()), ()))
                            else bif (decide ((x.2.1.2.2.2.2.2.2.1.1 < x.2.1.2.2.2.2.1))) then
                              (some (((1 : Int), ()), ()))
                              else some (((0 : Int), ()), ()))
                  else bif (decide ((x.2.1.2.2.2.2.1 > x.2.1.2.2.1))) then
                    (some (((1 : Int), ()), ()))
                    else bif (!x.2.1.2.2.2.2.2.1) then
                      (some (((0 : Int), ()), ()))
                      else (impl_EntryFault.F k x.2.1.2.2.2.2.2.2).bind fun y30 =>
                        bif (y30.1.1 != (0 : Int)) then
                        (some y30)
                        else bif (decide ((x.2.1.2.2.2.2.2.2.1.1 > x.2.1.2.2.1))) then
                          (some (((1 : Int), ()), ()))
                          else bif (decide ((x.2.1.2.2.2.2.2.2.1.1 < x.2.1.2.2.2.2.1))) then
                            (some (((1 : Int), ()), ()))
                            else some (((0 : Int), ()), ())
def impl_MailFault.hd : Hints := ⟨[], [(0, [3])], [4], [0, 1, 2, 3, 5, 6], []⟩
def impl_MailFault.lps (k : Nat) : List (Nat × Lp impl_MailFault.sg.Out) := []
theorem impl_MailFault.loops (k : Nat) : LoopsOk impl_MailFault.E k impl_MailFault.hd (impl_MailFault.lps k) (loopsOf (Go.Proofs.Try.f23.body.getD .skip)) := trivial
theorem impl_MailFault.den (k : Nat) (x : Sig.In impl_MailFault.sg.ps) : denFn impl_MailFault.E k Go.Proofs.Try.f23 impl_MailFault.sg impl_MailFault.hd (runL k impl_MailFault.hd (impl_MailFault.lps k)) x = impl_MailFault.F k x := by kernel_rfl
theorem impl_MailFault.ok (k : Nat) : Contract Try.prog 23 impl_MailFault.sg (impl_MailFault.F k) := ok_of (E := impl_MailFault.E) (tysOk _ _) (eqsOk _) ⟨impl_NodeFault.ok k, impl_in.ok k, impl_EntryFault.ok k, impl_isEpoch.ok k, impl_Entry_isZero.ok k, trivial⟩ Try.func23 rfl (by kernel_rfl) (impl_MailFault.loops k) (impl_MailFault.den k)
def spec_l12Zero.sg : Sig := ⟨[.b kEntry], [(.bool, .rd)]⟩
def spec_l12Zero.E : Env := ⟨tys, bys, [], eqs⟩
def spec_l12Zero.F (k : Nat) (x : ((Int × ((Int × (Int × ((List Int) × Unit))) × Unit)) × Unit)) : Option ((Bool × Unit) × Unit) :=
  bif (x.1.1 == (0 : Int)) then
  (bif (x.1.2.1.1 == (0 : Int)) then
    (bif (x.1.2.1.2.1 == (0 : Int)) then
      (some ((((((List.length x.1.2.1.2.2.1) : Nat) : Int) == (0 : Int)), ()), ()))
      else some ((false, ()), ()))
    else some ((false, ()), ()))
  else some ((false, ()), ())
def spec_l12Zero.hd : Hints := ⟨[], [], [2], [0, 1], []⟩
def spec_l12Zero.lps (k : Nat) : List (Nat × Lp spec_l12Zero.sg.Out) := []
theorem spec_l12Zero.loops (k : Nat) : LoopsOk spec_l12Zero.E k spec_l12Zero.hd (spec_l12Zero.lps k) (loopsOf (Go.Proofs.Try.f286.body.getD .skip)) := trivial
theorem spec_l12Zero.den (k : Nat) (x : Sig.In spec_l12Zero.sg.ps) : denFn spec_l12Zero.E k Go.Proofs.Try.f286 spec_l12Zero.sg spec_l12Zero.hd (runL k spec_l12Zero.hd (spec_l12Zero.lps k)) x = spec_l12Zero.F k x := by kernel_rfl
theorem spec_l12Zero.ok (k : Nat) : Contract Try.prog 286 spec_l12Zero.sg (spec_l12Zero.F k) := ok_of (E := spec_l12Zero.E) (tysOk _ _) (eqsOk _) trivial Try.func286 rfl (by kernel_rfl) (spec_l12Zero.loops k) (spec_l12Zero.den k)
def spec_l12Form.sg : Sig := ⟨[.b kMail], [(.bool, .rd)]⟩
def spec_l12Form.E : Env := ⟨tys, bys, [(286, ⟨spec_l12Zero.sg, spec_l12Zero.F⟩)], eqs⟩
def spec_l12Form.F (k : Nat) (x : ((Int × (Int × (Int × (Int × (Int × (Bool × ((Int × ((Int × (Int × ((List Int) × Unit))) × Unit)) × Unit))))))) × Unit)) : Option ((Bool × Unit) × Unit) :=
  bif (x.1.1 == (2 : Int)) then
  (bif (!x.1.2.2.2.2.2.1) then
    (bif (x.1.2.2.2.2.1 == (0 : Int)) then
      ((spec_l12Zero.F k x.1.2.2.2.2.2.2).bind fun y0 =>
        some y0)
      else some ((false, ()), ()))
    else some ((false, ()), ()))
  else bif ((x.1.2.2.2.1 == (0 : Int)) == (x.1.2.2.2.2.1 == (0 : Int))) then
    (bif x.1.2.2.2.2.2.1 then
      (some (((decide ((x.1.2.2.2.2.1 ≤ x.1.2.2.1))), ()), ()))
      else (spec_l12Zero.F k x.1.2.2.2.2.2.2).bind fun y1 =>
        bif y1.1.1 then
        (some (((decide ((x.1.2.2.2.2.1 ≤ x.1.2.2.1))), ()), ()))
        else some ((false, ()), ()))
    else some ((false, ()), ())
def spec_l12Form.hd : Hints := ⟨[], [], [2], [0, 1], []⟩
def spec_l12Form.lps (k : Nat) : List (Nat × Lp spec_l12Form.sg.Out) := []
theorem spec_l12Form.loops (k : Nat) : LoopsOk spec_l12Form.E k spec_l12Form.hd (spec_l12Form.lps k) (loopsOf (Go.Proofs.Try.f212.body.getD .skip)) := trivial
theorem spec_l12Form.den (k : Nat) (x : Sig.In spec_l12Form.sg.ps) : denFn spec_l12Form.E k Go.Proofs.Try.f212 spec_l12Form.sg spec_l12Form.hd (runL k spec_l12Form.hd (spec_l12Form.lps k)) x = spec_l12Form.F k x := by kernel_rfl
theorem spec_l12Form.ok (k : Nat) : Contract Try.prog 212 spec_l12Form.sg (spec_l12Form.F k) := ok_of (E := spec_l12Form.E) (tysOk _ _) (eqsOk _) ⟨spec_l12Zero.ok k, trivial⟩ Try.func212 rfl (by kernel_rfl) (spec_l12Form.loops k) (spec_l12Form.den k)
def spec_l12Mail.sg : Sig := ⟨[.r kNode, .b kMail], [((.int .i64), .rd)]⟩
def spec_l12Mail.E : Env := ⟨tys, bys, [(121, ⟨spec_l1In.sg, spec_l1In.F⟩), (211, ⟨spec_l10Epoch.sg, spec_l10Epoch.F⟩), (212, ⟨spec_l12Form.sg, spec_l12Form.F⟩), (213, ⟨spec_EntryFault.sg, spec_EntryFault.F⟩)], eqs⟩
def spec_l12Mail.F (k : Nat) (x : ((Int × (Bool × (Int × (Int × ((List (Int × ((Int × (Int × ((List Int) × Unit))) × Unit))) × (Int × (Int × (Int × (Int × Unit))))))))) × ((Int × (Int × (Int × (Int × (Int × (Bool × ((Int × ((Int × (Int × ((List Int) × Unit))) × Unit)) × Unit))))))) × Unit))) : Option ((Int × Unit) × Unit) :=
  (spec_l1In.F k (x.2.1.1, (1 : Int), (2 : Int), ())).bind fun y0 =>
  bif (!y0.1.1) then
  (some (((1 : Int), ()), ()))
  else bif (x.2.1.2.1 != x.1.1) then
    (some (((1 : Int), ()), ()))
    else (spec_l10Epoch.F k (x.2.1.2.2.1, ())).bind fun y1 =>
      bif (!y1.1.1) then
      (some (((3 : Int), ()), ()))
      else (spec_l1In.F k (x.2.1.2.2.2.1, (0 : Int), (100 : Int), ())).bind fun y2 =>
        bif (!y2.1.1) then
        (some (((3 : Int), ()), ()))
        else (spec_l1In.F k (x.2.1.2.2.2.2.1, (0 : Int), (1000 : Int), ())).bind fun y3 =>
          bif (!y3.1.1) then
          (some (((3 : Int), ()), ()))
          else (spec_l12Form.F k x.2).bind fun y4 =>
            bif (!y4.1.1) then
            (some (((1 : Int), ()), ()))
            else bif x.2.1.2.2.2.2.2.1 then
              ((spec_EntryFault.F k x.2.1.2.2.2.2.2.2).bind fun y5 =>
                bif (y5.1.1 != (0 : Int)) then
                (some y5)
                else bif (decide ((x.2.1.2.2.2.2.2.2.1.1 > x.2.1.2.2.1))) then
                  (some (((1 : Int), ()), ()))
                  else bif (decide ((x.2.1.2.2.2.2.2.2.1.1 < x.2.1.2.2.2.2.1))) then
                    (some (((1 : Int), ()), ()))
                    else some (((0 : Int), ()), ()))
              else some (((0 : Int), ()), ())
def spec_l12Mail.hd : Hints := ⟨[], [], [4], [0, 1, 3, 5], [(1, [0, 1, 3, 7, 15, 31, 63, 31, 159, 415, 927, 2047, 4095])]⟩
def spec_l12Mail.lps (k : Nat) : List (Nat × Lp spec_l12Mail.sg.Out) := []
theorem spec_l12Mail.loops (k : Nat) : LoopsOk spec_l12Mail.E k spec_l12Mail.hd (spec_l12Mail.lps k) (loopsOf (Go.Proofs.Try.f99.body.getD .skip)) := trivial
theorem spec_l12Mail.den (k : Nat) (x : Sig.In spec_l12Mail.sg.ps) : denFn spec_l12Mail.E k Go.Proofs.Try.f99 spec_l12Mail.sg spec_l12Mail.hd (runL k spec_l12Mail.hd (spec_l12Mail.lps k)) x = spec_l12Mail.F k x := by kernel_rfl
theorem spec_l12Mail.ok (k : Nat) : Contract Try.prog 99 spec_l12Mail.sg (spec_l12Mail.F k) := ok_of (E := spec_l12Mail.E) (tysOk _ _) (eqsOk _) ⟨spec_l1In.ok k, spec_l10Epoch.ok k, spec_l12Form.ok k, spec_EntryFault.ok k, trivial⟩ Try.func99 rfl (by kernel_rfl) (spec_l12Mail.loops k) (spec_l12Mail.den k)
def impl_RuleFault.sg : Sig := ⟨[.b kRule], [((.int .i64), .rd)]⟩
def impl_RuleFault.E : Env := ⟨tys, bys, [(89, ⟨impl_PrefixFault.sg, impl_PrefixFault.F⟩), (102, ⟨impl_in.sg, impl_in.F⟩), (193, ⟨impl_isTwo.sg, impl_isTwo.F⟩)], eqs⟩
def impl_RuleFault.F (k : Nat) (x : (((Int × (Int × Unit)) × (Int × (Int × (Int × (Bool × (Int × (Int × Unit))))))) × Unit)) : Option ((Int × Unit) × Unit) :=
  (impl_PrefixFault.F k (x.1.1, ())).bind fun y0 =>
  bif (y0.1.1 != (0 : Int)) then
  (some y0)
  else (impl_in.F k (x.1.2.1, (0 : Int), (16 : Int), ())).bind fun y1 =>
    bif (!y1.1.1) then
    (some (((3 : Int), ()), ()))
    else (impl_in.F k (x.1.2.2.1, (0 : Int), (16 : Int), ())).bind fun y2 =>
      bif (!y2.1.1) then
      (some (((3 : Int), ()), ()))
      else (impl_isTwo.F k (x.1.2.2.2.1, ())).bind fun y3 =>
        bif (!y3.1.1) then
        (some (((3 : Int), ()), ()))
        else (impl_in.F k (x.1.2.2.2.2.2.1, (-(1 : Int)), (65535 : Int), ())).bind fun y4 =>
          bif (!y4.1.1) then
          (some (((3 : Int), ()), ()))
          else (impl_in.F k (x.1.2.2.2.2.2.2.1, (0 : Int), (3 : Int), ())).bind fun y5 =>
            bif (!y5.1.1) then
            (some (((3 : Int), ()), ()))
            else bif (decide ((x.1.2.1 > x.1.2.2.1))) then
              (some (((1 : Int), ()), ()))
              else bif x.1.2.2.2.2.1 then
                (bif (x.1.2.2.2.2.2.1 != (-(1 : Int))) then
                  (some (((1 : Int), ()), ()))
                  else bif (x.1.2.2.2.2.2.2.1 != (0 : Int)) then
                    (some (((1 : Int), ()), ()))
                    else some (((0 : Int), ()), ()))
                else some (((0 : Int), ()), ())
def impl_RuleFault.hd : Hints := ⟨[], [(0, [])], [2], [0, 1, 3], []⟩
def impl_RuleFault.lps (k : Nat) : List (Nat × Lp impl_RuleFault.sg.Out) := []
theorem impl_RuleFault.loops (k : Nat) : LoopsOk impl_RuleFault.E k impl_RuleFault.hd (impl_RuleFault.lps k) (loopsOf (Go.Proofs.Try.f225.body.getD .skip)) := trivial
theorem impl_RuleFault.den (k : Nat) (x : Sig.In impl_RuleFault.sg.ps) : denFn impl_RuleFault.E k Go.Proofs.Try.f225 impl_RuleFault.sg impl_RuleFault.hd (runL k impl_RuleFault.hd (impl_RuleFault.lps k)) x = impl_RuleFault.F k x := by kernel_rfl
theorem impl_RuleFault.ok (k : Nat) : Contract Try.prog 225 impl_RuleFault.sg (impl_RuleFault.F k) := ok_of (E := impl_RuleFault.E) (tysOk _ _) (eqsOk _) ⟨impl_PrefixFault.ok k, impl_in.ok k, impl_isTwo.ok k, trivial⟩ Try.func225 rfl (by kernel_rfl) (impl_RuleFault.loops k) (impl_RuleFault.den k)
def impl_RulesFault.sg : Sig := ⟨[.b (.sl kRule)], [((.int .i64), .rd)]⟩
def impl_RulesFault.E : Env := ⟨tys, bys, [(225, ⟨impl_RuleFault.sg, impl_RuleFault.F⟩)], eqs⟩
def impl_RulesFault.l4 {ρ : Type} (k : Nat) (c0 : (Int × Unit) → Option ρ) (c1 : Unit → Option ρ) : Nat → List ((Int × (Int × Unit)) × (Int × (Int × (Int × (Bool × (Int × (Int × Unit))))))) → Int → Int → Option ρ
  | 0 => fun _ _ _ => none
  | n + 1 => fun x0 x1 x2 => 
    bif (decide ((x2 < x1))) then
    (bif (Go.Dn.inB x2 (((List.length x0) : Nat) : Int)) then
      (Go.Dn.share (List.getD x0 (Int.toNat x2) (((0 : Int), ((0 : Int), ())), ((0 : Int), ((0 : Int), ((0 : Int), (false, ((0 : Int), ((0 : Int), ())))))))) fun s0 =>
        (impl_RuleFault.F k (s0, ())).bind fun y1 =>
        bif (y1.1.1 != (0 : Int)) then
        (c0 (y1.1.1, ()))
        else impl_RulesFault.l4 k c0 c1 n x0 x1 (IntKind.wrap .i64 (x2 + (1 : Int))))
      else none)
    else c1 (())
def impl_RulesFault.F (k : Nat) (x : ((List ((Int × (Int × Unit)) × (Int × (Int × (Int × (Bool × (Int × (Int × Unit)))))))) × Unit)) : Option ((Int × Unit) × Unit) :=
  bif (decide (((((List.length x.1) : Nat) : Int) > (8 : Int)))) then
  (some (((2 : Int), ()), ()))
  else impl_RulesFault.l4 k (fun e2 =>
      some (e2, ())) (fun e3 =>
      some (((0 : Int), ()), ())) k x.1 (((List.length x.1) : Nat) : Int) (0 : Int)
def impl_RulesFault.hd : Hints := ⟨[(4, ⟨[9, 10, 11], []⟩)], [(0, []), (1, [9, 10, 11])], [2], [0, 4, 5, 9, 10, 11], []⟩
def impl_RulesFault.lps (k : Nat) : List (Nat × Lp impl_RulesFault.sg.Out) := [(4, ⟨[.l kRule, .i, .i], fun x => (fun x0 x1 x2 => ⟨[(9, .v false [.fz kRule x0]), (10, .v false [.int .i64 x1]), (11, .v false [.int .i64 x2])], [], []⟩) x.1 x.2.1 x.2.2.1, fun C n x => impl_RulesFault.l4 k (fun y => C .ret ((fun y0 => ⟨[(2, .v false [.int .i64 y0])], [], []⟩) y.1)) (fun _ => C (.exit 0) ⟨[], [], []⟩) n x.1 x.2.1 x.2.2.1⟩)]
theorem impl_RulesFault.loops (k : Nat) : LoopsOk impl_RulesFault.E k impl_RulesFault.hd (impl_RulesFault.lps k) (loopsOf (Go.Proofs.Try.f114.body.getD .skip)) := ⟨⟨fun _ _ => rfl, fun _ _ _ => by kernel_rfl, fun _ => ⟨rfl, rfl⟩⟩, trivial⟩
theorem impl_RulesFault.den (k : Nat) (x : Sig.In impl_RulesFault.sg.ps) : denFn impl_RulesFault.E k Go.Proofs.Try.f114 impl_RulesFault.sg impl_RulesFault.hd (runL k impl_RulesFault.hd (impl_RulesFault.lps k)) x = impl_RulesFault.F k x := by kernel_rfl
theorem impl_RulesFault.ok (k : Nat) : Contract Try.prog 114 impl_RulesFault.sg (impl_RulesFault.F k) := ok_of (E := impl_RulesFault.E) (tysOk _ _) (eqsOk _) ⟨impl_RuleFault.ok k, trivial⟩ Try.func114 rfl (by kernel_rfl) (impl_RulesFault.loops k) (impl_RulesFault.den k)
def spec_RuleFault.sg : Sig := ⟨[.b kRule], [((.int .i64), .rd)]⟩
def spec_RuleFault.E : Env := ⟨tys, bys, [(121, ⟨spec_l1In.sg, spec_l1In.F⟩), (186, ⟨spec_PrefixFault.sg, spec_PrefixFault.F⟩), (273, ⟨spec_l3Word.sg, spec_l3Word.F⟩)], eqs⟩
def spec_RuleFault.F (k : Nat) (x : (((Int × (Int × Unit)) × (Int × (Int × (Int × (Bool × (Int × (Int × Unit))))))) × Unit)) : Option ((Int × Unit) × Unit) :=
  (spec_PrefixFault.F k (x.1.1, ())).bind fun y0 =>
  bif (y0.1.1 != (0 : Int)) then
  (some y0)
  else (spec_l1In.F k (x.1.2.1, (0 : Int), (16 : Int), ())).bind fun y1 =>
    bif (!y1.1.1) then
    (some (((3 : Int), ()), ()))
    else (spec_l1In.F k (x.1.2.2.1, (0 : Int), (16 : Int), ())).bind fun y2 =>
      bif (!y2.1.1) then
      (some (((3 : Int), ()), ()))
      else (spec_l3Word.F k (x.1.2.2.2.1, ())).bind fun y3 =>
        bif (!y3.1.1) then
        (some (((3 : Int), ()), ()))
        else (spec_l1In.F k (x.1.2.2.2.2.2.1, (-(1 : Int)), (65535 : Int), ())).bind fun y4 =>
          bif (!y4.1.1) then
          (some (((3 : Int), ()), ()))
          else (spec_l1In.F k (x.1.2.2.2.2.2.2.1, (0 : Int), (3 : Int), ())).bind fun y5 =>
            bif (!y5.1.1) then
            (some (((3 : Int), ()), ()))
            else bif (decide ((x.1.2.1 > x.1.2.2.1))) then
              (some (((1 : Int), ()), ()))
              else bif x.1.2.2.2.2.1 then
                (bif (x.1.2.2.2.2.2.1 != (-(1 : Int))) then
                  (some (((1 : Int), ()), ()))
                  else bif (x.1.2.2.2.2.2.2.1 != (0 : Int)) then
                    (some (((1 : Int), ()), ()))
                    else some (((0 : Int), ()), ()))
                else some (((0 : Int), ()), ())
def spec_RuleFault.hd : Hints := ⟨[], [], [2], [0, 1, 3], []⟩
def spec_RuleFault.lps (k : Nat) : List (Nat × Lp spec_RuleFault.sg.Out) := []
theorem spec_RuleFault.loops (k : Nat) : LoopsOk spec_RuleFault.E k spec_RuleFault.hd (spec_RuleFault.lps k) (loopsOf (Go.Proofs.Try.f230.body.getD .skip)) := trivial
theorem spec_RuleFault.den (k : Nat) (x : Sig.In spec_RuleFault.sg.ps) : denFn spec_RuleFault.E k Go.Proofs.Try.f230 spec_RuleFault.sg spec_RuleFault.hd (runL k spec_RuleFault.hd (spec_RuleFault.lps k)) x = spec_RuleFault.F k x := by kernel_rfl
theorem spec_RuleFault.ok (k : Nat) : Contract Try.prog 230 spec_RuleFault.sg (spec_RuleFault.F k) := ok_of (E := spec_RuleFault.E) (tysOk _ _) (eqsOk _) ⟨spec_l1In.ok k, spec_PrefixFault.ok k, spec_l3Word.ok k, trivial⟩ Try.func230 rfl (by kernel_rfl) (spec_RuleFault.loops k) (spec_RuleFault.den k)
def spec_RulesFault.sg : Sig := ⟨[.b (.sl kRule)], [((.int .i64), .rd)]⟩
def spec_RulesFault.E : Env := ⟨tys, bys, [(230, ⟨spec_RuleFault.sg, spec_RuleFault.F⟩)], eqs⟩
def spec_RulesFault.l4 {ρ : Type} (k : Nat) (c0 : (Int × Unit) → Option ρ) (c1 : Unit → Option ρ) : Nat → List ((Int × (Int × Unit)) × (Int × (Int × (Int × (Bool × (Int × (Int × Unit))))))) → Int → Option ρ
  | 0 => fun _ _ => none
  | n + 1 => fun x0 x1 => 
    bif (decide ((x1 < (((List.length x0) : Nat) : Int)))) then
    (bif (Go.Dn.inB x1 (((List.length x0) : Nat) : Int)) then
      (Go.Dn.share (List.getD x0 (Int.toNat x1) (((0 : Int), ((0 : Int), ())), ((0 : Int), ((0 : Int), ((0 : Int), (false, ((0 : Int), ((0 : Int), ())))))))) fun s0 =>
        (spec_RuleFault.F k (s0, ())).bind fun y1 =>
        bif (y1.1.1 != (0 : Int)) then
        (c0 (y1.1.1, ()))
        else spec_RulesFault.l4 k c0 c1 n x0 (IntKind.wrap .i64 (x1 + (1 : Int))))
      else none)
    else c1 (())
def spec_RulesFault.F (k : Nat) (x : ((List ((Int × (Int × Unit)) × (Int × (Int × (Int × (Bool × (Int × (Int × Unit)))))))) × Unit)) : Option ((Int × Unit) × Unit) :=
  bif (decide (((((List.length x.1) : Nat) : Int) > (8 : Int)))) then
  (some (((2 : Int), ()), ()))
  else spec_RulesFault.l4 k (fun e2 =>
      some (e2, ())) (fun e3 =>
      some (((0 : Int), ()), ())) k x.1 (0 : Int)
def spec_RulesFault.hd : Hints := ⟨[(4, ⟨[0, 3], []⟩)], [(0, []), (1, [0, 3])], [2], [0, 3, 4], []⟩
def spec_RulesFault.lps (k : Nat) : List (Nat × Lp spec_RulesFault.sg.Out) := [(4, ⟨[.l kRule, .i], fun x => (fun x0 x1 => ⟨[(0, .v false [.fz kRule x0]), (3, .v false [.int .i64 x1])], [], []⟩) x.1 x.2.1, fun C n x => spec_RulesFault.l4 k (fun y => C .ret ((fun y0 => ⟨[(2, .v false [.int .i64 y0])], [], []⟩) y.1)) (fun _ => C (.exit 0) ⟨[], [], []⟩) n x.1 x.2.1⟩)]
theorem spec_RulesFault.loops (k : Nat) : LoopsOk spec_RulesFault.E k spec_RulesFault.hd (spec_RulesFault.lps k) (loopsOf (Go.Proofs.Try.f120.body.getD .skip)) := ⟨⟨fun _ _ => rfl, fun _ _ _ => by kernel_rfl, fun _ => ⟨rfl, rfl⟩⟩, trivial⟩
theorem spec_RulesFault.den (k : Nat) (x : Sig.In spec_RulesFault.sg.ps) : denFn spec_RulesFault.E k Go.Proofs.Try.f120 spec_RulesFault.sg spec_RulesFault.hd (runL k spec_RulesFault.hd (spec_RulesFault.lps k)) x = spec_RulesFault.F k x := by kernel_rfl
theorem spec_RulesFault.ok (k : Nat) : Contract Try.prog 120 spec_RulesFault.sg (spec_RulesFault.F k) := ok_of (E := spec_RulesFault.E) (tysOk _ _) (eqsOk _) ⟨spec_RuleFault.ok k, trivial⟩ Try.func120 rfl (by kernel_rfl) (spec_RulesFault.loops k) (spec_RulesFault.den k)
def laws_szByteS.sg : Sig := ⟨[.b (.sl (.int .u8)), .b (.int .i64)], [((.int .i64), .rd)]⟩
def laws_szByteS.E : Env := ⟨tys, bys, [], eqs⟩
def laws_szByteS.F (k : Nat) (x : ((List Int) × (Int × Unit))) : Option ((Int × Unit) × Unit) :=
  bif (decide (((IntKind.wrap .i64 (x.2.1 - (((List.length x.1) : Nat) : Int))) < (0 : Int)))) then
  (some (((-(1 : Int)), ()), ()))
  else some (((IntKind.wrap .i64 (x.2.1 - (((List.length x.1) : Nat) : Int))), ()), ())
def laws_szByteS.hd : Hints := ⟨[], [], [4], [0, 1], []⟩
def laws_szByteS.lps (k : Nat) : List (Nat × Lp laws_szByteS.sg.Out) := []
theorem laws_szByteS.loops (k : Nat) : LoopsOk laws_szByteS.E k laws_szByteS.hd (laws_szByteS.lps k) (loopsOf (Go.Proofs.Try.f301.body.getD .skip)) := trivial
theorem laws_szByteS.den (k : Nat) (x : Sig.In laws_szByteS.sg.ps) : denFn laws_szByteS.E k Go.Proofs.Try.f301 laws_szByteS.sg laws_szByteS.hd (runL k laws_szByteS.hd (laws_szByteS.lps k)) x = laws_szByteS.F k x := by kernel_rfl
theorem laws_szByteS.ok (k : Nat) : Contract Try.prog 301 laws_szByteS.sg (laws_szByteS.F k) := ok_of (E := laws_szByteS.E) (tysOk _ _) (eqsOk _) trivial Try.func301 rfl (by kernel_rfl) (laws_szByteS.loops k) (laws_szByteS.den k)
def laws_szEvent.sg : Sig := ⟨[.b kEvent, .b (.int .i64)], [((.int .i64), .rd)]⟩
def laws_szEvent.E : Env := ⟨tys, bys, [(301, ⟨laws_szByteS.sg, laws_szByteS.F⟩)], eqs⟩
def laws_szEvent.F (k : Nat) (x : ((Int × (Int × ((List Int) × Unit))) × (Int × Unit))) : Option ((Int × Unit) × Unit) :=
  (laws_szByteS.F k (x.1.2.2.1, x.2)).bind fun y0 =>
  bif (decide ((y0.1.1 < (0 : Int)))) then
  (some (((-(1 : Int)), ()), ()))
  else some y0
def laws_szEvent.hd : Hints := ⟨[], [], [4], [0, 1, 2], []⟩
def laws_szEvent.lps (k : Nat) : List (Nat × Lp laws_szEvent.sg.Out) := []
theorem laws_szEvent.loops (k : Nat) : LoopsOk laws_szEvent.E k laws_szEvent.hd (laws_szEvent.lps k) (loopsOf (Go.Proofs.Try.f237.body.getD .skip)) := trivial
theorem laws_szEvent.den (k : Nat) (x : Sig.In laws_szEvent.sg.ps) : denFn laws_szEvent.E k Go.Proofs.Try.f237 laws_szEvent.sg laws_szEvent.hd (runL k laws_szEvent.hd (laws_szEvent.lps k)) x = laws_szEvent.F k x := by kernel_rfl
theorem laws_szEvent.ok (k : Nat) : Contract Try.prog 237 laws_szEvent.sg (laws_szEvent.F k) := ok_of (E := laws_szEvent.E) (tysOk _ _) (eqsOk _) ⟨laws_szByteS.ok k, trivial⟩ Try.func237 rfl (by kernel_rfl) (laws_szEvent.loops k) (laws_szEvent.den k)
def laws_szEntry.sg : Sig := ⟨[.b kEntry, .b (.int .i64)], [((.int .i64), .rd)]⟩
def laws_szEntry.E : Env := ⟨tys, bys, [(237, ⟨laws_szEvent.sg, laws_szEvent.F⟩)], eqs⟩
def laws_szEntry.F (k : Nat) (x : ((Int × ((Int × (Int × ((List Int) × Unit))) × Unit)) × (Int × Unit))) : Option ((Int × Unit) × Unit) :=
  (laws_szEvent.F k (x.1.2.1, x.2)).bind fun y0 =>
  bif (decide ((y0.1.1 < (0 : Int)))) then
  (some (((-(1 : Int)), ()), ()))
  else some y0
def laws_szEntry.hd : Hints := ⟨[], [], [4], [0, 1, 2], []⟩
def laws_szEntry.lps (k : Nat) : List (Nat × Lp laws_szEntry.sg.Out) := []
theorem laws_szEntry.loops (k : Nat) : LoopsOk laws_szEntry.E k laws_szEntry.hd (laws_szEntry.lps k) (loopsOf (Go.Proofs.Try.f127.body.getD .skip)) := trivial
theorem laws_szEntry.den (k : Nat) (x : Sig.In laws_szEntry.sg.ps) : denFn laws_szEntry.E k Go.Proofs.Try.f127 laws_szEntry.sg laws_szEntry.hd (runL k laws_szEntry.hd (laws_szEntry.lps k)) x = laws_szEntry.F k x := by kernel_rfl
theorem laws_szEntry.ok (k : Nat) : Contract Try.prog 127 laws_szEntry.sg (laws_szEntry.F k) := ok_of (E := laws_szEntry.E) (tysOk _ _) (eqsOk _) ⟨laws_szEvent.ok k, trivial⟩ Try.func127 rfl (by kernel_rfl) (laws_szEntry.loops k) (laws_szEntry.den k)
def laws_szEntryS.sg : Sig := ⟨[.b (.sl kEntry), .b (.int .i64)], [((.int .i64), .rd)]⟩
def laws_szEntryS.E : Env := ⟨tys, bys, [(127, ⟨laws_szEntry.sg, laws_szEntry.F⟩)], eqs⟩
def laws_szEntryS.l5 {ρ : Type} (k : Nat) (c0 : (Int × Unit) → Option ρ) (c1 : (Int × Unit) → Option ρ) : Nat → List (Int × ((Int × (Int × ((List Int) × Unit))) × Unit)) → Int → Int → Option ρ
  | 0 => fun _ _ _ => none
  | n + 1 => fun x0 x1 x2 => 
    bif (decide ((x2 < (((List.length x0) : Nat) : Int)))) then
    (bif (Go.Dn.inB x2 (((List.length x0) : Nat) : Int)) then
      (Go.Dn.share (List.getD x0 (Int.toNat x2) ((0 : Int), (((0 : Int), ((0 : Int), (([] : List Int), ()))), ()))) fun s0 =>
        (laws_szEntry.F k (s0, x1, ())).bind fun y1 =>
        bif (decide ((y1.1.1 < (0 : Int)))) then
        (c0 ((-(1 : Int)), ()))
        else laws_szEntryS.l5 k c0 c1 n x0 y1.1.1 (IntKind.wrap .i64 (x2 + (1 : Int))))
      else none)
    else c1 (x1, ())
def laws_szEntryS.F (k : Nat) (x : ((List (Int × ((Int × (Int × ((List Int) × Unit))) × Unit))) × (Int × Unit))) : Option ((Int × Unit) × Unit) :=
  bif (decide (((IntKind.wrap .i64 (x.2.1 - (((List.length x.1) : Nat) : Int))) < (0 : Int)))) then
  (some (((-(1 : Int)), ()), ()))
  else laws_szEntryS.l5 k (fun e2 =>
      some (e2, ())) (fun e3 =>
      some (e3, ())) k x.1 (IntKind.wrap .i64 (x.2.1 - (((List.length x.1) : Nat) : Int))) (0 : Int)
def laws_szEntryS.hd : Hints := ⟨[(5, ⟨[0, 1, 5], []⟩)], [(0, [1]), (1, [0, 1, 5])], [4], [0, 1, 5], []⟩
def laws_szEntryS.lps (k : Nat) : List (Nat × Lp laws_szEntryS.sg.Out) := [(5, ⟨[.l kEntry, .i, .i], fun x => (fun x0 x1 x2 => ⟨[(0, .v false [.fz kEntry x0]), (1, .v false [.int .i64 x1]), (5, .v false [.int .i64 x2])], [], []⟩) x.1 x.2.1 x.2.2.1, fun C n x => laws_szEntryS.l5 k (fun y => C .ret ((fun y0 => ⟨[(4, .v false [.int .i64 y0])], [], []⟩) y.1)) (fun y => C (.exit 0) ((fun y0 => ⟨[(1, .v false [.int .i64 y0])], [], []⟩) y.1)) n x.1 x.2.1 x.2.2.1⟩)]
theorem laws_szEntryS.loops (k : Nat) : LoopsOk laws_szEntryS.E k laws_szEntryS.hd (laws_szEntryS.lps k) (loopsOf (Go.Proofs.Try.f126.body.getD .skip)) := ⟨⟨fun _ _ => rfl, fun _ _ _ => by kernel_rfl, fun _ => ⟨rfl, rfl⟩⟩, trivial⟩
theorem laws_szEntryS.den (k : Nat) (x : Sig.In laws_szEntryS.sg.ps) : denFn laws_szEntryS.E k Go.Proofs.Try.f126 laws_szEntryS.sg laws_szEntryS.hd (runL k laws_szEntryS.hd (laws_szEntryS.lps k)) x = laws_szEntryS.F k x := by kernel_rfl
theorem laws_szEntryS.ok (k : Nat) : Contract Try.prog 126 laws_szEntryS.sg (laws_szEntryS.F k) := ok_of (E := laws_szEntryS.E) (tysOk _ _) (eqsOk _) ⟨laws_szEntry.ok k, trivial⟩ Try.func126 rfl (by kernel_rfl) (laws_szEntryS.loops k) (laws_szEntryS.den k)
def laws_szNode.sg : Sig := ⟨[.b kNode, .b (.int .i64)], [((.int .i64), .rd)]⟩
def laws_szNode.E : Env := ⟨tys, bys, [(126, ⟨laws_szEntryS.sg, laws_szEntryS.F⟩)], eqs⟩
def laws_szNode.F (k : Nat) (x : ((Int × (Bool × (Int × (Int × ((List (Int × ((Int × (Int × ((List Int) × Unit))) × Unit))) × (Int × (Int × (Int × (Int × Unit))))))))) × (Int × Unit))) : Option ((Int × Unit) × Unit) :=
  (laws_szEntryS.F k (x.1.2.2.2.2.1, x.2)).bind fun y0 =>
  bif (decide ((y0.1.1 < (0 : Int)))) then
  (some (((-(1 : Int)), ()), ()))
  else some y0
def laws_szNode.hd : Hints := ⟨[], [], [4], [0, 1, 2], []⟩
def laws_szNode.lps (k : Nat) : List (Nat × Lp laws_szNode.sg.Out) := []
theorem laws_szNode.loops (k : Nat) : LoopsOk laws_szNode.E k laws_szNode.hd (laws_szNode.lps k) (loopsOf (Go.Proofs.Try.f30.body.getD .skip)) := trivial
theorem laws_szNode.den (k : Nat) (x : Sig.In laws_szNode.sg.ps) : denFn laws_szNode.E k Go.Proofs.Try.f30 laws_szNode.sg laws_szNode.hd (runL k laws_szNode.hd (laws_szNode.lps k)) x = laws_szNode.F k x := by kernel_rfl
theorem laws_szNode.ok (k : Nat) : Contract Try.prog 30 laws_szNode.sg (laws_szNode.F k) := ok_of (E := laws_szNode.E) (tysOk _ _) (eqsOk _) ⟨laws_szEntryS.ok k, trivial⟩ Try.func30 rfl (by kernel_rfl) (laws_szNode.loops k) (laws_szNode.den k)
def laws_szMail.sg : Sig := ⟨[.b kMail, .b (.int .i64)], [((.int .i64), .rd)]⟩
def laws_szMail.E : Env := ⟨tys, bys, [(127, ⟨laws_szEntry.sg, laws_szEntry.F⟩)], eqs⟩
def laws_szMail.F (k : Nat) (x : ((Int × (Int × (Int × (Int × (Int × (Bool × ((Int × ((Int × (Int × ((List Int) × Unit))) × Unit)) × Unit))))))) × (Int × Unit))) : Option ((Int × Unit) × Unit) :=
  (laws_szEntry.F k (x.1.2.2.2.2.2.2.1, x.2)).bind fun y0 =>
  bif (decide ((y0.1.1 < (0 : Int)))) then
  (some (((-(1 : Int)), ()), ()))
  else some y0
def laws_szMail.hd : Hints := ⟨[], [], [4], [0, 1, 2], []⟩
def laws_szMail.lps (k : Nat) : List (Nat × Lp laws_szMail.sg.Out) := []
theorem laws_szMail.loops (k : Nat) : LoopsOk laws_szMail.E k laws_szMail.hd (laws_szMail.lps k) (loopsOf (Go.Proofs.Try.f31.body.getD .skip)) := trivial
theorem laws_szMail.den (k : Nat) (x : Sig.In laws_szMail.sg.ps) : denFn laws_szMail.E k Go.Proofs.Try.f31 laws_szMail.sg laws_szMail.hd (runL k laws_szMail.hd (laws_szMail.lps k)) x = laws_szMail.F k x := by kernel_rfl
theorem laws_szMail.ok (k : Nat) : Contract Try.prog 31 laws_szMail.sg (laws_szMail.F k) := ok_of (E := laws_szMail.E) (tysOk _ _) (eqsOk _) ⟨laws_szEntry.ok k, trivial⟩ Try.func31 rfl (by kernel_rfl) (laws_szMail.loops k) (laws_szMail.den k)
def laws_toByteS.sg : Sig := ⟨[.b (.sl (.int .u8))], [((.sl (.int .u8)), .dp)]⟩
def laws_toByteS.E : Env := ⟨tys, bys, [], eqs⟩
def laws_toByteS.l3 {ρ : Type} (k : Nat) (c0 : (List Int × Unit) → Option ρ) : Nat → List Int → Int → List Int → Option ρ
  | 0 => fun _ _ _ => none
  | n + 1 => fun x0 x1 x2 => 
    bif (decide ((x1 < (((List.length x0) : Nat) : Int)))) then
    (bif (Go.Dn.inB x1 (((List.length x0) : Nat) : Int)) then
      (Go.Dn.share (List.getD x0 (Int.toNat x1) (0 : Int)) fun s0 =>
        bif (Go.Dn.inB x1 (((List.length x2) : Nat) : Int)) then
        (Go.Dn.share (List.set x2 (Int.toNat x1) s0) fun s1 =>
          laws_toByteS.l3 k c0 n x0 (IntKind.wrap .i64 (x1 + (1 : Int))) s1)
        else none)
      else none)
    else c0 (x2, ())
def laws_toByteS.F (k : Nat) (x : ((List Int) × Unit)) : Option (((List Int) × Unit) × Unit) :=
  bif (decide (((((List.length x.1) : Nat) : Int) ≤ (((List.length x.1) : Nat) : Int)))) then
  (bif (Go.Dn.roomy (Int.toNat (((List.length x.1) : Nat) : Int)) 1) then
    (laws_toByteS.l3 k (fun e2 =>
        some (e2, ())) k x.1 (0 : Int) (List.replicate (Int.toNat (((List.length x.1) : Nat) : Int)) (0 : Int)))
    else none)
  else none
def laws_toByteS.hd : Hints := ⟨[(3, ⟨[0, 3, 4], []⟩)], [(0, [3]), (1, [0, 3, 4])], [2], [0, 3, 4], []⟩
def laws_toByteS.lps (k : Nat) : List (Nat × Lp laws_toByteS.sg.Out) := [(3, ⟨[.l (.int .u8), .i, .l (.int .u8)], fun x => (fun x0 x1 x2 => ⟨[(0, .v false [.fz (.int .u8) x0]), (3, .v false [.arr 0]), (4, .v false [.int .i64 x1])], [(0, .arr (.int .u8) true false x2)], []⟩) x.1 x.2.1 x.2.2.1, fun C n x => laws_toByteS.l3 k (fun y => C (.exit 0) ((fun y0 => ⟨[(3, .v false [.arr 0])], [(0, .arr (.int .u8) true false y0)], []⟩) y.1)) n x.1 x.2.1 x.2.2.1⟩)]
theorem laws_toByteS.loops (k : Nat) : LoopsOk laws_toByteS.E k laws_toByteS.hd (laws_toByteS.lps k) (loopsOf (Go.Proofs.Try.f302.body.getD .skip)) := ⟨⟨fun _ _ => rfl, fun _ _ _ => by kernel_rfl, fun _ => ⟨rfl, rfl⟩⟩, trivial⟩
theorem laws_toByteS.den (k : Nat) (x : Sig.In laws_toByteS.sg.ps) : denFn laws_toByteS.E k Go.Proofs.Try.f302 laws_toByteS.sg laws_toByteS.hd (runL k laws_toByteS.hd (laws_toByteS.lps k)) x = laws_toByteS.F k x := by kernel_rfl
theorem laws_toByteS.ok (k : Nat) : Contract Try.prog 302 laws_toByteS.sg (laws_toByteS.F k) := ok_of (E := laws_toByteS.E) (tysOk _ _) (eqsOk _) trivial Try.func302 rfl (by kernel_rfl) (laws_toByteS.loops k) (laws_toByteS.den k)
def laws_toEvent.sg : Sig := ⟨[.b kEvent], [(kEvent, .dp)]⟩
def laws_toEvent.E : Env := ⟨tys, bys, [(302, ⟨laws_toByteS.sg, laws_toByteS.F⟩)], eqs⟩
def laws_toEvent.F (k : Nat) (x : ((Int × (Int × ((List Int) × Unit))) × Unit)) : Option (((Int × (Int × ((List Int) × Unit))) × Unit) × Unit) :=
  (laws_toByteS.F k x.1.2.2).bind fun y0 =>
  some (((x.1.1, x.1.2.1, y0.1), ()), ())
def laws_toEvent.hd : Hints := ⟨[], [], [2], [0, 1, 2, 3], []⟩
def laws_toEvent.lps (k : Nat) : List (Nat × Lp laws_toEvent.sg.Out) := []
theorem laws_toEvent.loops (k : Nat) : LoopsOk laws_toEvent.E k laws_toEvent.hd (laws_toEvent.lps k) (loopsOf (Go.Proofs.Try.f238.body.getD .skip)) := trivial
theorem laws_toEvent.den (k : Nat) (x : Sig.In laws_toEvent.sg.ps) : denFn laws_toEvent.E k Go.Proofs.Try.f238 laws_toEvent.sg laws_toEvent.hd (runL k laws_toEvent.hd (laws_toEvent.lps k)) x = laws_toEvent.F k x := by kernel_rfl
theorem laws_toEvent.ok (k : Nat) : Contract Try.prog 238 laws_toEvent.sg (laws_toEvent.F k) := ok_of (E := laws_toEvent.E) (tysOk _ _) (eqsOk _) ⟨laws_toByteS.ok k, trivial⟩ Try.func238 rfl (by kernel_rfl) (laws_toEvent.loops k) (laws_toEvent.den k)
def laws_toEntry.sg : Sig := ⟨[.b kEntry], [(kEntry, .dp)]⟩
def laws_toEntry.E : Env := ⟨tys, bys, [(238, ⟨laws_toEvent.sg, laws_toEvent.F⟩)], eqs⟩
def laws_toEntry.F (k : Nat) (x : ((Int × ((Int × (Int × ((List Int) × Unit))) × Unit)) × Unit)) : Option (((Int × ((Int × (Int × ((List Int) × Unit))) × Unit)) × Unit) × Unit) :=
  (laws_toEvent.F k x.1.2).bind fun y0 =>
  some (((x.1.1, y0.1), ()), ())
def laws_toEntry.hd : Hints := ⟨[], [], [2], [0, 1, 2, 3], []⟩
def laws_toEntry.lps (k : Nat) : List (Nat × Lp laws_toEntry.sg.Out) := []
theorem laws_toEntry.loops (k : Nat) : LoopsOk laws_toEntry.E k laws_toEntry.hd (laws_toEntry.lps k) (loopsOf (Go.Proofs.Try.f129.body.getD .skip)) := trivial
theorem laws_toEntry.den (k : Nat) (x : Sig.In laws_toEntry.sg.ps) : denFn laws_toEntry.E k Go.Proofs.Try.f129 laws_toEntry.sg laws_toEntry.hd (runL k laws_toEntry.hd (laws_toEntry.lps k)) x = laws_toEntry.F k x := by kernel_rfl
theorem laws_toEntry.ok (k : Nat) : Contract Try.prog 129 laws_toEntry.sg (laws_toEntry.F k) := ok_of (E := laws_toEntry.E) (tysOk _ _) (eqsOk _) ⟨laws_toEvent.ok k, trivial⟩ Try.func129 rfl (by kernel_rfl) (laws_toEntry.loops k) (laws_toEntry.den k)
def laws_toEntryS.sg : Sig := ⟨[.b (.sl kEntry)], [((.sl kEntry), .dp)]⟩
def laws_toEntryS.E : Env := ⟨tys, bys, [(129, ⟨laws_toEntry.sg, laws_toEntry.F⟩)], eqs⟩
def laws_toEntryS.l3 {ρ : Type} (k : Nat) (c0 : (List (Int × ((Int × (Int × ((List Int) × Unit))) × Unit)) × Unit) → Option ρ) : Nat → List (Int × ((Int × (Int × ((List Int) × Unit))) × Unit)) → Int → List (Int × ((Int × (Int × ((List Int) × Unit))) × Unit)) → Option ρ
  | 0 => fun _ _ _ => none
  | n + 1 => fun x0 x1 x2 => 
    bif (decide ((x1 < (((List.length x0) : Nat) : Int)))) then
    (bif (Go.Dn.inB x1 (((List.length x0) : Nat) : Int)) then
      (Go.Dn.share (List.getD x0 (Int.toNat x1) ((0 : Int), (((0 : Int), ((0 : Int), (([] : List Int), ()))), ()))) fun s0 =>
        (laws_toEntry.F k (s0, ())).bind fun y1 =>
        bif (Go.Dn.inB x1 (((List.length x2) : Nat) : Int)) then
        (Go.Dn.share (List.set x2 (Int.toNat x1) (y1.1.1.1, (y1.1.1.2.1.1, y1.1.1.2.1.2.1, y1.1.1.2.1.2.2.1, (List.getD x2 (Int.toNat x1) ((0 : Int), (((0 : Int), ((0 : Int), (([] : List Int), ()))), ()))).2.1.2.2.2), (List.getD x2 (Int.toNat x1) ((0 : Int), (((0 : Int), ((0 : Int), (([] : List Int), ()))), ()))).2.2)) fun s2 =>
          laws_toEntryS.l3 k c0 n x0 (IntKind.wrap .i64 (x1 + (1 : Int))) s2)
        else none)
      else none)
    else c0 (x2, ())
def laws_toEntryS.F (k : Nat) (x : ((List (Int × ((Int × (Int × ((List Int) × Unit))) × Unit))) × Unit)) : Option (((List (Int × ((Int × (Int × ((List Int) × Unit))) × Unit))) × Unit) × Unit) :=
  bif (decide (((((List.length x.1) : Nat) : Int) ≤ (((List.length x.1) : Nat) : Int)))) then
  (bif (Go.Dn.roomy (Int.toNat (((List.length x.1) : Nat) : Int)) 48) then
    (laws_toEntryS.l3 k (fun e3 =>
        some (e3, ())) k x.1 (0 : Int) (List.replicate (Int.toNat (((List.length x.1) : Nat) : Int)) ((0 : Int), (((0 : Int), ((0 : Int), (([] : List Int), ()))), ()))))
    else none)
  else none
def laws_toEntryS.hd : Hints := ⟨[(3, ⟨[0, 3, 4], []⟩)], [(0, [3]), (1, [0, 3, 4])], [2], [0, 3, 4], []⟩
def laws_toEntryS.lps (k : Nat) : List (Nat × Lp laws_toEntryS.sg.Out) := [(3, ⟨[.l kEntry, .i, .l kEntry], fun x => (fun x0 x1 x2 => ⟨[(0, .v false [.fz kEntry x0]), (3, .v false [.arr 0]), (4, .v false [.int .i64 x1])], [(0, .arr kEntry true false x2)], []⟩) x.1 x.2.1 x.2.2.1, fun C n x => laws_toEntryS.l3 k (fun y => C (.exit 0) ((fun y0 => ⟨[(3, .v false [.arr 0])], [(0, .arr kEntry true false y0)], []⟩) y.1)) n x.1 x.2.1 x.2.2.1⟩)]
theorem laws_toEntryS.loops (k : Nat) : LoopsOk laws_toEntryS.E k laws_toEntryS.hd (laws_toEntryS.lps k) (loopsOf (Go.Proofs.Try.f128.body.getD .skip)) := ⟨⟨fun _ _ => rfl, fun _ _ _ => by kernel_rfl, fun _ => ⟨rfl, rfl⟩⟩, trivial⟩
theorem laws_toEntryS.den (k : Nat) (x : Sig.In laws_toEntryS.sg.ps) : denFn laws_toEntryS.E k Go.Proofs.Try.f128 laws_toEntryS.sg laws_toEntryS.hd (runL k laws_toEntryS.hd (laws_toEntryS.lps k)) x = laws_toEntryS.F k x := by kernel_rfl
theorem laws_toEntryS.ok (k : Nat) : Contract Try.prog 128 laws_toEntryS.sg (laws_toEntryS.F k) := ok_of (E := laws_toEntryS.E) (tysOk _ _) (eqsOk _) ⟨laws_toEntry.ok k, trivial⟩ Try.func128 rfl (by kernel_rfl) (laws_toEntryS.loops k) (laws_toEntryS.den k)
def laws_toNode.sg : Sig := ⟨[.b kNode], [(kNode, .dp)]⟩
def laws_toNode.E : Env := ⟨tys, bys, [(128, ⟨laws_toEntryS.sg, laws_toEntryS.F⟩)], eqs⟩
def laws_toNode.F (k : Nat) (x : ((Int × (Bool × (Int × (Int × ((List (Int × ((Int × (Int × ((List Int) × Unit))) × Unit))) × (Int × (Int × (Int × (Int × Unit))))))))) × Unit)) : Option (((Int × (Bool × (Int × (Int × ((List (Int × ((Int × (Int × ((List Int) × Unit))) × Unit))) × (Int × (Int × (Int × (Int × Unit))))))))) × Unit) × Unit) :=
  (laws_toEntryS.F k (x.1.2.2.2.2.1, ())).bind fun y0 =>
  some (((x.1.1, x.1.2.1, x.1.2.2.1, x.1.2.2.2.1, y0.1.1, x.1.2.2.2.2.2), ()), ())
def laws_toNode.hd : Hints := ⟨[], [], [2], [0, 1, 2, 3], []⟩
def laws_toNode.lps (k : Nat) : List (Nat × Lp laws_toNode.sg.Out) := []
theorem laws_toNode.loops (k : Nat) : LoopsOk laws_toNode.E k laws_toNode.hd (laws_toNode.lps k) (loopsOf (Go.Proofs.Try.f32.body.getD .skip)) := trivial
theorem laws_toNode.den (k : Nat) (x : Sig.In laws_toNode.sg.ps) : denFn laws_toNode.E k Go.Proofs.Try.f32 laws_toNode.sg laws_toNode.hd (runL k laws_toNode.hd (laws_toNode.lps k)) x = laws_toNode.F k x := by kernel_rfl
theorem laws_toNode.ok (k : Nat) : Contract Try.prog 32 laws_toNode.sg (laws_toNode.F k) := ok_of (E := laws_toNode.E) (tysOk _ _) (eqsOk _) ⟨laws_toEntryS.ok k, trivial⟩ Try.func32 rfl (by kernel_rfl) (laws_toNode.loops k) (laws_toNode.den k)
def laws_toMail.sg : Sig := ⟨[.b kMail], [(kMail, .dp)]⟩
def laws_toMail.E : Env := ⟨tys, bys, [(129, ⟨laws_toEntry.sg, laws_toEntry.F⟩)], eqs⟩
def laws_toMail.F (k : Nat) (x : ((Int × (Int × (Int × (Int × (Int × (Bool × ((Int × ((Int × (Int × ((List Int) × Unit))) × Unit)) × Unit))))))) × Unit)) : Option (((Int × (Int × (Int × (Int × (Int × (Bool × ((Int × ((Int × (Int × ((List Int) × Unit))) × Unit)) × Unit))))))) × Unit) × Unit) :=
  (laws_toEntry.F k x.1.2.2.2.2.2.2).bind fun y0 =>
  some (((x.1.1, x.1.2.1, x.1.2.2.1, x.1.2.2.2.1, x.1.2.2.2.2.1, x.1.2.2.2.2.2.1, y0.1), ()), ())
def laws_toMail.hd : Hints := ⟨[], [], [2], [0, 1, 2, 3], []⟩
def laws_toMail.lps (k : Nat) : List (Nat × Lp laws_toMail.sg.Out) := []
theorem laws_toMail.loops (k : Nat) : LoopsOk laws_toMail.E k laws_toMail.hd (laws_toMail.lps k) (loopsOf (Go.Proofs.Try.f33.body.getD .skip)) := trivial
theorem laws_toMail.den (k : Nat) (x : Sig.In laws_toMail.sg.ps) : denFn laws_toMail.E k Go.Proofs.Try.f33 laws_toMail.sg laws_toMail.hd (runL k laws_toMail.hd (laws_toMail.lps k)) x = laws_toMail.F k x := by kernel_rfl
theorem laws_toMail.ok (k : Nat) : Contract Try.prog 33 laws_toMail.sg (laws_toMail.F k) := ok_of (E := laws_toMail.E) (tysOk _ _) (eqsOk _) ⟨laws_toEntry.ok k, trivial⟩ Try.func33 rfl (by kernel_rfl) (laws_toMail.loops k) (laws_toMail.den k)
def laws_eqByteS.sg : Sig := ⟨[.b (.sl (.int .u8)), .b (.sl (.int .u8))], [(.bool, .rd)]⟩
def laws_eqByteS.E : Env := ⟨tys, bys, [], eqs⟩
def laws_eqByteS.l4 {ρ : Type} (k : Nat) (c0 : (Bool × Unit) → Option ρ) (c1 : Unit → Option ρ) : Nat → List Int → List Int → Int → Option ρ
  | 0 => fun _ _ _ => none
  | n + 1 => fun x0 x1 x2 => 
    bif (decide ((x2 < (((List.length x0) : Nat) : Int)))) then
    (bif (Go.Dn.inB x2 (((List.length x0) : Nat) : Int)) then
      (Go.Dn.share (List.getD x0 (Int.toNat x2) (0 : Int)) fun s0 =>
        bif (Go.Dn.inB x2 (((List.length x1) : Nat) : Int)) then
        (Go.Dn.share (List.getD x1 (Int.toNat x2) (0 : Int)) fun s1 =>
          bif (s0 != s1) then
          (c0 (false, ()))
          else laws_eqByteS.l4 k c0 c1 n x0 x1 (IntKind.wrap .i64 (x2 + (1 : Int))))
        else none)
      else none)
    else c1 (())
def laws_eqByteS.F (k : Nat) (x : ((List Int) × ((List Int) × Unit))) : Option ((Bool × Unit) × Unit) :=
  bif ((((List.length x.1) : Nat) : Int) != (((List.length x.2.1) : Nat) : Int)) then
  (some ((false, ()), ()))
  else laws_eqByteS.l4 k (fun e2 =>
      some (e2, ())) (fun e3 =>
      some ((true, ()), ())) k x.1 x.2.1 (0 : Int)
def laws_eqByteS.hd : Hints := ⟨[(4, ⟨[0, 1, 5], []⟩)], [(0, []), (1, [0, 1, 5])], [4], [0, 1, 5], [(6, [0, 0, 3, 7, 0, 0, 48, 112, 255])]⟩
def laws_eqByteS.lps (k : Nat) : List (Nat × Lp laws_eqByteS.sg.Out) := [(4, ⟨[.l (.int .u8), .l (.int .u8), .i], fun x => (fun x0 x1 x2 => ⟨[(0, .v false [.fz (.int .u8) x0]), (1, .v false [.fz (.int .u8) x1]), (5, .v false [.int .i64 x2])], [], []⟩) x.1 x.2.1 x.2.2.1, fun C n x => laws_eqByteS.l4 k (fun y => C .ret ((fun y0 => ⟨[(4, .v false [.bool y0])], [], []⟩) y.1)) (fun _ => C (.exit 0) ⟨[], [], []⟩) n x.1 x.2.1 x.2.2.1⟩)]
theorem laws_eqByteS.loops (k : Nat) : LoopsOk laws_eqByteS.E k laws_eqByteS.hd (laws_eqByteS.lps k) (loopsOf (Go.Proofs.Try.f156.body.getD .skip)) := ⟨⟨fun _ _ => rfl, fun _ _ _ => by kernel_rfl, fun _ => ⟨rfl, rfl⟩⟩, trivial⟩
theorem laws_eqByteS.den (k : Nat) (x : Sig.In laws_eqByteS.sg.ps) : denFn laws_eqByteS.E k Go.Proofs.Try.f156 laws_eqByteS.sg laws_eqByteS.hd (runL k laws_eqByteS.hd (laws_eqByteS.lps k)) x = laws_eqByteS.F k x := by kernel_rfl
theorem laws_eqByteS.ok (k : Nat) : Contract Try.prog 156 laws_eqByteS.sg (laws_eqByteS.F k) := ok_of (E := laws_eqByteS.E) (tysOk _ _) (eqsOk _) trivial Try.func156 rfl (by kernel_rfl) (laws_eqByteS.loops k) (laws_eqByteS.den k)
def laws_eqEvent.sg : Sig := ⟨[.b kEvent, .b kEvent], [(.bool, .rd)]⟩
def laws_eqEvent.E : Env := ⟨tys, bys, [(156, ⟨laws_eqByteS.sg, laws_eqByteS.F⟩)], eqs⟩
def laws_eqEvent.F (k : Nat) (x : ((Int × (Int × ((List Int) × Unit))) × ((Int × (Int × ((List Int) × Unit))) × Unit))) : Option ((Bool × Unit) × Unit) :=
  bif (x.1.1 != x.2.1.1) then
  (some ((false, ()), ()))
  else bif (x.1.2.1 != x.2.1.2.1) then
    (some ((false, ()), ()))
    else (laws_eqByteS.F k (x.1.2.2.1, x.2.1.2.2)).bind fun y0 =>
      bif (!y0.1.1) then
      (some ((false, ()), ()))
      else some ((true, ()), ())
def laws_eqEvent.hd : Hints := ⟨[], [], [4], [0, 1, 2, 3], []⟩
def laws_eqEvent.lps (k : Nat) : List (Nat × Lp laws_eqEvent.sg.Out) := []
theorem laws_eqEvent.loops (k : Nat) : LoopsOk laws_eqEvent.E k laws_eqEvent.hd (laws_eqEvent.lps k) (loopsOf (Go.Proofs.Try.f239.body.getD .skip)) := trivial
theorem laws_eqEvent.den (k : Nat) (x : Sig.In laws_eqEvent.sg.ps) : denFn laws_eqEvent.E k Go.Proofs.Try.f239 laws_eqEvent.sg laws_eqEvent.hd (runL k laws_eqEvent.hd (laws_eqEvent.lps k)) x = laws_eqEvent.F k x := by kernel_rfl
theorem laws_eqEvent.ok (k : Nat) : Contract Try.prog 239 laws_eqEvent.sg (laws_eqEvent.F k) := ok_of (E := laws_eqEvent.E) (tysOk _ _) (eqsOk _) ⟨laws_eqByteS.ok k, trivial⟩ Try.func239 rfl (by kernel_rfl) (laws_eqEvent.loops k) (laws_eqEvent.den k)
def laws_eqEntry.sg : Sig := ⟨[.b kEntry, .b kEntry], [(.bool, .rd)]⟩
def laws_eqEntry.E : Env := ⟨tys, bys, [(239, ⟨laws_eqEvent.sg, laws_eqEvent.F⟩)], eqs⟩
def laws_eqEntry.F (k : Nat) (x : ((Int × ((Int × (Int × ((List Int) × Unit))) × Unit)) × ((Int × ((Int × (Int × ((List Int) × Unit))) × Unit)) × Unit))) : Option ((Bool × Unit) × Unit) :=
  bif (x.1.1 != x.2.1.1) then
  (some ((false, ()), ()))
  else (laws_eqEvent.F k (x.1.2.1, x.2.1.2)).bind fun y0 =>
    bif (!y0.1.1) then
    (some ((false, ()), ()))
    else some ((true, ()), ())
def laws_eqEntry.hd : Hints := ⟨[], [], [4], [0, 1, 2, 3], []⟩
def laws_eqEntry.lps (k : Nat) : List (Nat × Lp laws_eqEntry.sg.Out) := []
theorem laws_eqEntry.loops (k : Nat) : LoopsOk laws_eqEntry.E k laws_eqEntry.hd (laws_eqEntry.lps k) (loopsOf (Go.Proofs.Try.f132.body.getD .skip)) := trivial
theorem laws_eqEntry.den (k : Nat) (x : Sig.In laws_eqEntry.sg.ps) : denFn laws_eqEntry.E k Go.Proofs.Try.f132 laws_eqEntry.sg laws_eqEntry.hd (runL k laws_eqEntry.hd (laws_eqEntry.lps k)) x = laws_eqEntry.F k x := by kernel_rfl
theorem laws_eqEntry.ok (k : Nat) : Contract Try.prog 132 laws_eqEntry.sg (laws_eqEntry.F k) := ok_of (E := laws_eqEntry.E) (tysOk _ _) (eqsOk _) ⟨laws_eqEvent.ok k, trivial⟩ Try.func132 rfl (by kernel_rfl) (laws_eqEntry.loops k) (laws_eqEntry.den k)
def laws_eqEntryS.sg : Sig := ⟨[.b (.sl kEntry), .b (.sl kEntry)], [(.bool, .rd)]⟩
def laws_eqEntryS.E : Env := ⟨tys, bys, [(132, ⟨laws_eqEntry.sg, laws_eqEntry.F⟩)], eqs⟩
def laws_eqEntryS.l4 {ρ : Type} (k : Nat) (c0 : (Bool × Unit) → Option ρ) (c1 : Unit → Option ρ) : Nat → List (Int × ((Int × (Int × ((List Int) × Unit))) × Unit)) → List (Int × ((Int × (Int × ((List Int) × Unit))) × Unit)) → Int → Option ρ
  | 0 => fun _ _ _ => none
  | n + 1 => fun x0 x1 x2 => 
    bif (decide ((x2 < (((List.length x0) : Nat) : Int)))) then
    (bif (Go.Dn.inB x2 (((List.length x0) : Nat) : Int)) then
      (Go.Dn.share (List.getD x0 (Int.toNat x2) ((0 : Int), (((0 : Int), ((0 : Int), (([] : List Int), ()))), ()))) fun s0 =>
        bif (Go.Dn.inB x2 (((List.length x1) : Nat) : Int)) then
        (Go.Dn.share (List.getD x1 (Int.toNat x2) ((0 : Int), (((0 : Int), ((0 : Int), (([] : List Int), ()))), ()))) fun s1 =>
          (laws_eqEntry.F k (s0, s1, ())).bind fun y2 =>
          bif (!y2.1.1) then
          (c0 (false, ()))
          else laws_eqEntryS.l4 k c0 c1 n x0 x1 (IntKind.wrap .i64 (x2 + (1 : Int))))
        else none)
      else none)
    else c1 (())
def laws_eqEntryS.F (k : Nat) (x : ((List (Int × ((Int × (Int × ((List Int) × Unit))) × Unit))) × ((List (Int × ((Int × (Int × ((List Int) × Unit))) × Unit))) × Unit))) : Option ((Bool × Unit) × Unit) :=
  bif ((((List.length x.1) : Nat) : Int) != (((List.length x.2.1) : Nat) : Int)) then
  (some ((false, ()), ()))
  else laws_eqEntryS.l4 k (fun e3 =>
      some (e3, ())) (fun e4 =>
      some ((true, ()), ())) k x.1 x.2.1 (0 : Int)
def laws_eqEntryS.hd : Hints := ⟨[(4, ⟨[0, 1, 5], []⟩)], [(0, []), (1, [0, 1, 5])], [4], [0, 1, 5], [(6, [0, 0, 3, 7, 0, 0, 48, 112, 255, 511])]⟩
def laws_eqEntryS.lps (k : Nat) : List (Nat × Lp laws_eqEntryS.sg.Out) := [(4, ⟨[.l kEntry, .l kEntry, .i], fun x => (fun x0 x1 x2 => ⟨[(0, .v false [.fz kEntry x0]), (1, .v false [.fz kEntry x1]), (5, .v false [.int .i64 x2])], [], []⟩) x.1 x.2.1 x.2.2.1, fun C n x => laws_eqEntryS.l4 k (fun y => C .ret ((fun y0 => ⟨[(4, .v false [.bool y0])], [], []⟩) y.1)) (fun _ => C (.exit 0) ⟨[], [], []⟩) n x.1 x.2.1 x.2.2.1⟩)]
theorem laws_eqEntryS.loops (k : Nat) : LoopsOk laws_eqEntryS.E k laws_eqEntryS.hd (laws_eqEntryS.lps k) (loopsOf (Go.Proofs.Try.f131.body.getD .skip)) := ⟨⟨fun _ _ => rfl, fun _ _ _ => by kernel_rfl, fun _ => ⟨rfl, rfl⟩⟩, trivial⟩
theorem laws_eqEntryS.den (k : Nat) (x : Sig.In laws_eqEntryS.sg.ps) : denFn laws_eqEntryS.E k Go.Proofs.Try.f131 laws_eqEntryS.sg laws_eqEntryS.hd (runL k laws_eqEntryS.hd (laws_eqEntryS.lps k)) x = laws_eqEntryS.F k x := by kernel_rfl
theorem laws_eqEntryS.ok (k : Nat) : Contract Try.prog 131 laws_eqEntryS.sg (laws_eqEntryS.F k) := ok_of (E := laws_eqEntryS.E) (tysOk _ _) (eqsOk _) ⟨laws_eqEntry.ok k, trivial⟩ Try.func131 rfl (by kernel_rfl) (laws_eqEntryS.loops k) (laws_eqEntryS.den k)
def laws_eqNode.sg : Sig := ⟨[.b kNode, .b kNode], [(.bool, .rd)]⟩
def laws_eqNode.E : Env := ⟨tys, bys, [(131, ⟨laws_eqEntryS.sg, laws_eqEntryS.F⟩)], eqs⟩
def laws_eqNode.F (k : Nat) (x : ((Int × (Bool × (Int × (Int × ((List (Int × ((Int × (Int × ((List Int) × Unit))) × Unit))) × (Int × (Int × (Int × (Int × Unit))))))))) × ((Int × (Bool × (Int × (Int × ((List (Int × ((Int × (Int × ((List Int) × Unit))) × Unit))) × (Int × (Int × (Int × (Int × Unit))))))))) × Unit))) : Option ((Bool × Unit) × Unit) :=
  bif (x.1.1 != x.2.1.1) then
  (some ((false, ()), ()))
  else bif (!(x.1.2.1 == x.2.1.2.1)) then
    (some ((false, ()), ()))
    else bif (x.1.2.2.1 != x.2.1.2.2.1) then
      (some ((false, ()), ()))
      else bif (x.1.2.2.2.1 != x.2.1.2.2.2.1) then
        (some ((false, ()), ()))
        else (laws_eqEntryS.F k (x.1.2.2.2.2.1, x.2.1.2.2.2.2.1, ())).bind fun y0 =>
          bif (!y0.1.1) then
          (some ((false, ()), ()))
          else bif (x.1.2.2.2.2.2.1 != x.2.1.2.2.2.2.2.1) then
            (some ((false, ()), ()))
            else bif (x.1.2.2.2.2.2.2.1 != x.2.1.2.2.2.2.2.2.1) then
              (some ((false, ()), ()))
              else bif (x.1.2.2.2.2.2.2.2.1 != x.2.1.2.2.2.2.2.2.2.1) then
                (some ((false, ()), ()))
                else bif (x.1.2.2.2.2.2.2.2.2.1 != x.2.1.2.2.2.2.2.2.2.2.1) then
                  (some ((false, ()), ()))
                  else some ((true, ()), ())
def laws_eqNode.hd : Hints := ⟨[], [], [4], [0, 1, 2, 3], []⟩
def laws_eqNode.lps (k : Nat) : List (Nat × Lp laws_eqNode.sg.Out) := []
theorem laws_eqNode.loops (k : Nat) : LoopsOk laws_eqNode.E k laws_eqNode.hd (laws_eqNode.lps k) (loopsOf (Go.Proofs.Try.f35.body.getD .skip)) := trivial
theorem laws_eqNode.den (k : Nat) (x : Sig.In laws_eqNode.sg.ps) : denFn laws_eqNode.E k Go.Proofs.Try.f35 laws_eqNode.sg laws_eqNode.hd (runL k laws_eqNode.hd (laws_eqNode.lps k)) x = laws_eqNode.F k x := by kernel_rfl
theorem laws_eqNode.ok (k : Nat) : Contract Try.prog 35 laws_eqNode.sg (laws_eqNode.F k) := ok_of (E := laws_eqNode.E) (tysOk _ _) (eqsOk _) ⟨laws_eqEntryS.ok k, trivial⟩ Try.func35 rfl (by kernel_rfl) (laws_eqNode.loops k) (laws_eqNode.den k)
def laws_eqMail.sg : Sig := ⟨[.b kMail, .b kMail], [(.bool, .rd)]⟩
def laws_eqMail.E : Env := ⟨tys, bys, [(132, ⟨laws_eqEntry.sg, laws_eqEntry.F⟩)], eqs⟩
def laws_eqMail.F (k : Nat) (x : ((Int × (Int × (Int × (Int × (Int × (Bool × ((Int × ((Int × (Int × ((List Int) × Unit))) × Unit)) × Unit))))))) × ((Int × (Int × (Int × (Int × (Int × (Bool × ((Int × ((Int × (Int × ((List Int) × Unit))) × Unit)) × Unit))))))) × Unit))) : Option ((Bool × Unit) × Unit) :=
  bif (x.1.1 != x.2.1.1) then
  (some ((false, ()), ()))
  else bif (x.1.2.1 != x.2.1.2.1) then
    (some ((false, ()), ()))
    else bif (x.1.2.2.1 != x.2.1.2.2.1) then
      (some ((false, ()), ()))
      else bif (x.1.2.2.2.1 != x.2.1.2.2.2.1) then
        (some ((false, ()), ()))
        else bif (x.1.2.2.2.2.1 != x.2.1.2.2.2.2.1) then
          (some ((false, ()), ()))
          else bif (!(x.1.2.2.2.2.2.1 == x.2.1.2.2.2.2.2.1)) then
            (some ((false, ()), ()))
            else (laws_eqEntry.F k (x.1.2.2.2.2.2.2.1, x.2.1.2.2.2.2.2.2)).bind fun y0 =>
              bif (!y0.1.1) then
              (some ((false, ()), ()))
              else some ((true, ()), ())
def laws_eqMail.hd : Hints := ⟨[], [], [4], [0, 1, 2, 3], []⟩
def laws_eqMail.lps (k : Nat) : List (Nat × Lp laws_eqMail.sg.Out) := []
theorem laws_eqMail.loops (k : Nat) : LoopsOk laws_eqMail.E k laws_eqMail.hd (laws_eqMail.lps k) (loopsOf (Go.Proofs.Try.f36.body.getD .skip)) := trivial
theorem laws_eqMail.den (k : Nat) (x : Sig.In laws_eqMail.sg.ps) : denFn laws_eqMail.E k Go.Proofs.Try.f36 laws_eqMail.sg laws_eqMail.hd (runL k laws_eqMail.hd (laws_eqMail.lps k)) x = laws_eqMail.F k x := by kernel_rfl
theorem laws_eqMail.ok (k : Nat) : Contract Try.prog 36 laws_eqMail.sg (laws_eqMail.F k) := ok_of (E := laws_eqMail.E) (tysOk _ _) (eqsOk _) ⟨laws_eqEntry.ok k, trivial⟩ Try.func36 rfl (by kernel_rfl) (laws_eqMail.loops k) (laws_eqMail.den k)

end Go.Proofs.Ythnidahfdnnboaa
