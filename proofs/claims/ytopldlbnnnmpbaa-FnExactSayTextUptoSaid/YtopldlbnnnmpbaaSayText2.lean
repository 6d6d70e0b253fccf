/- FnExactSayText: for every message of bulk at most 1048576 the law returns true and its argument reads as before; no further condition. -/
import Derived.Deep.Slices
import Derived.Carry
import Derived.ProofKit
import Derived.OpenShut
import Derived.IntWalk
import Derived.Test.YtopldlbnnnmpbaaProg
import Derived.KernelRfl
import Derived.Test.YtopldlbnnnmpbaaSayText0
import Derived.Test.YtopldlbnnnmpbaaSayText1
/- A function's begin and its end: what it does is what is said. -/
set_option linter.unusedVariables false
namespace Go.Dn

theorem give_top : ∀ (κ : K) (q : Q) (x : κ.T) (i : Nat), (κ.give q x i).2.2 ≤ i + 2 * κ.n
  | .int _, q, _, _ => by cases q <;> exact Nat.le_add_right _ _
  | .bool, q, _, _ => by cases q <;> exact Nat.le_add_right _ _
  | .str, q, _, _ => by cases q <;> exact Nat.le_add_right _ _
  | .unit, q, _, _ => by cases q <;> exact Nat.le_add_right _ _
  | .pair a b, q, x, i => by
    have h1 := give_top a q.l x.1 i
    have h2 := give_top b q.r x.2 (a.give q.l x.1 i).2.2
    simp only [K.give, K.n]; omega
  | .sl _, q, _, _ => by
    cases q
    · exact Nat.le_add_right _ _
    · exact Nat.le_refl _
    · exact Nat.le_refl _
    · exact Nat.le_add_right _ _
theorem ArgsR.len {P : Program} {Z W : CS} {w : World} : ∀ (ps : List PM) (x : Sig.In ps) (vs : List Value) (T : CS), ArgsR P Z W w ps x vs T → vs.length = ps.length
  | [], x, vs, T, h => by simp only [ArgsR] at h; rw [h]; rfl
  | .b κ :: ps, x, vs, T, h => by obtain ⟨v, us, r, rfl, _, _, h⟩ := h; simp [ArgsR.len ps x.2 r T h]
  | .r κ :: ps, x, vs, T, h => by obtain ⟨b, off, us, r, rfl, _, _, h⟩ := h; simp [ArgsR.len ps x.2 r T h]
  | .p κ i _ :: ps, x, vs, T, h => by obtain ⟨b, off, r, T1, T2, rfl, _, h, _⟩ := h; simp [ArgsR.len ps x.2 r T2 h]
  | .m κ :: ps, x, vs, T, h => by obtain ⟨v, us, r, T1, T2, rfl, _, _, h, _⟩ := h; simp [ArgsR.len ps x.2 r T2 h]
  | .c e d :: ps, x, vs, T, h => by obtain ⟨v, r, T1, T2, rfl, _, h, _⟩ := h; simp [ArgsR.len ps x.2 r T2 h]
  | .z _ :: ps, x, vs, T, h => by obtain ⟨A, r, rfl, h⟩ := h; simp [ArgsR.len ps x r T h]
  | .f a b :: ps, x, vs, T, h => by obtain ⟨v, r, rfl, _, h⟩ := h; simp [ArgsR.len ps x.2 r T h]

def X0 (P : Program) (n : Nat) (W : CS) (w : World) (Z : CS) : Cx := ⟨P, n, W, w, Z, []⟩
theorem vr_ov {P : Program} {n : Nat} {W : CS} {w0 : World} {Z0 : CS} (ov ov' : List Value) {β : Nat → Pl} {D : Nat → Prop} {Z : CS} {w : World} {c : CV} {v : Value} (h : VR ⟨P, n, W, w0, Z0, ov⟩ β D Z w c v) : VR ⟨P, n, W, w0, Z0, ov'⟩ β D Z w c v := by
  cases c <;> exact h
theorem or_ov {P : Program} {n : Nat} {W : CS} {w0 : World} {Z0 : CS} (ov ov' : List Value) {β : Nat → Pl} {D : Nat → Prop} {Z : CS} {w : World} {o : Nat} {S : CS} {b : OB} (h : OR ⟨P, n, W, w0, Z0, ov⟩ β D Z w o S b) : OR ⟨P, n, W, w0, Z0, ov'⟩ β D Z w o S b := by
  cases b with
  | box cs =>
    intro i c hi
    obtain ⟨h1, v, h2, h3⟩ := h i c hi
    exact ⟨h1, v, h2, vr_ov ov ov' h3⟩
  | arr e d fr l => cases fr <;> exact h
  | hole => exact h
  | non => trivial
  | dead => trivial

/-- What of the arguments is looked at again at the end. -/
def OVR : List PM → List Value → List Value → Prop
  | [], _, ov => ov = []
  | .p _ _ _ :: ps, v :: vs, ov => ∃ r, ov = v :: r ∧ OVR ps vs r
  | .m κ :: ps, v :: vs, ov => ∃ us r, ov = us ++ r ∧ pk κ us v ∧ us.length = κ.n ∧ OVR ps vs r
  | .b _ :: ps, _ :: vs, ov => OVR ps vs ov
  | .r _ :: ps, _ :: vs, ov => OVR ps vs ov
  | .c _ _ :: ps, _ :: vs, ov => OVR ps vs ov
  | .z _ :: ps, _ :: vs, ov => OVR ps vs ov
  | .f _ _ :: ps, _ :: vs, ov => OVR ps vs ov
  | _, [], _ => False
section
variable {P : Program} {n : Nat} {W : CS} {w : World} {Z : CS}
/-- The objects and temporaries at a function's begin. -/
theorem entryAll_sound {outs0 : List CV} {a : Act} {sl0 : Nat → DV} : ∀ (ps : List PM) (i : Nat) (x : Sig.In ps) (vs : List Value) (T : CS) (β : Nat → Pl) (D : Nat → Prop) (S : Nat → CS) (ob : Nat → OB), psOk ps = true → ArgsR P Z W w ps x vs T → T.le W → RelAt (X0 P n W w Z) β D S Z sl0 ob outs0 a w → Free (X0 P n W w Z) S Z w T → (∀ z, i * 64 ≤ z → ob z = .non) →
    ∃ β' D' S' ov, RelAt (X0 P n W w Z) β' D' S' Z sl0 (updAll ob (entryAll i ps x).2.1) outs0 a w ∧ All2 (fun s v => DR (VR (X0 P n W w Z) β' D' Z w) s.2 v) (entryAll i ps x).1 vs ∧ (entryAll i ps x).1.map (·.1) = List.range' i ps.length ∧ All2 (VR (X0 P n W w Z) β' D' Z w) (entryAll i ps x).2.2 ov ∧ OVR ps vs ov ∧
      Grew (X0 P n W w Z) β D S Z w T β' D' S' := by
  intro ps
  induction ps with
  | nil =>
    intro i x vs T β D S ob hps hA hT hr hf hn
    simp only [ArgsR] at hA
    subst hA
    exact ⟨β, D, S, [], hr, trivial, rfl, trivial, rfl, fun o d => ⟨d, rfl⟩, fun o b j s => .inl s⟩
  | cons p ps ih =>
    intro i x vs T β D S ob hps hA hT hr hf hn
    have hps2 : psOk ps = true := by unfold psOk at hps ⊢; simp only [List.all_cons, Bool.and_eq_true] at hps; exact hps.2
    -- a parameter without memory
    have plain : ∀ (v : Value) (r : List Value) (d : DV) (x2 : Sig.In ps) (T2 : CS), T2.le T → ArgsR P Z W w ps x2 r T2 → (∀ (β' : Nat → Pl) (D' : Nat → Prop), (∀ o, D o → D' o ∧ β' o = β o) → DR (VR (X0 P n W w Z) β' D' Z w) d v) → (∀ ov, OVR ps r ov → OVR (p :: ps) (v :: r) ov) →
        ∃ β' D' S' ov, RelAt (X0 P n W w Z) β' D' S' Z sl0 (updAll ob (entryAll (i + 1) ps x2).2.1) outs0 a w ∧ All2 (fun s v => DR (VR (X0 P n W w Z) β' D' Z w) s.2 v) ((i, d) :: (entryAll (i + 1) ps x2).1) (v :: r) ∧ ((i, d) :: (entryAll (i + 1) ps x2).1).map (·.1) = List.range' i (ps.length + 1) ∧ All2 (VR (X0 P n W w Z) β' D' Z w) (entryAll (i + 1) ps x2).2.2 ov ∧ OVR (p :: ps) (v :: r) ov ∧
          Grew (X0 P n W w Z) β D S Z w T β' D' S' := fun v r d x2 T2 hT2 h2 hd hov => by
      obtain ⟨β', D', S', ov, k1, k2, k3, k4, k6, k5⟩ := ih (i + 1) x2 r T2 β D S ob hps2 h2 (hT2.trans hT) hr (hf.le hT2) (fun z hz => hn z (by omega))
      refine ⟨β', D', S', ov, k1, ⟨hd β' D' k5.d, k2⟩, ?_, k4, hov ov k6, k5.d, fun o b j s => (k5.s o b j s).imp (fun h => h) (hT2 b j)⟩
      rw [List.map_cons, k3, List.range'_succ]
    -- a parameter with memory of its own
    have owned : ∀ (v : Value) (r : List Value) (d : DV) (l : List (Nat × OB)) (o1 : List CV) (u1 : List Value) (x2 : Sig.In ps) (T1 T2 : CS), Sep T T1 T2 → ArgsR P Z W w ps x2 r T2 → (∀ z ∈ l, i * 64 ≤ z.1 ∧ z.1 < (i + 1) * 64) →
        (∃ β1 D1 S1, RelAt (X0 P n W w Z) β1 D1 S1 Z sl0 (updAll ob l) outs0 a w ∧ DR (VR (X0 P n W w Z) β1 D1 Z w) d v ∧ All2 (VR (X0 P n W w Z) β1 D1 Z w) o1 u1 ∧ Grew (X0 P n W w Z) β D S Z w T1 β1 D1 S1) → (∀ ov, OVR ps r ov → OVR (p :: ps) (v :: r) (u1 ++ ov)) →
        ∃ β' D' S' ov, RelAt (X0 P n W w Z) β' D' S' Z sl0 (updAll ob (l ++ (entryAll (i + 1) ps x2).2.1)) outs0 a w ∧ All2 (fun s v => DR (VR (X0 P n W w Z) β' D' Z w) s.2 v) ((i, d) :: (entryAll (i + 1) ps x2).1) (v :: r) ∧ ((i, d) :: (entryAll (i + 1) ps x2).1).map (·.1) = List.range' i (ps.length + 1) ∧ All2 (VR (X0 P n W w Z) β' D' Z w) (o1 ++ (entryAll (i + 1) ps x2).2.2) ov ∧ OVR (p :: ps) (v :: r) ov ∧
          Grew (X0 P n W w Z) β D S Z w T β' D' S' := fun v r d l o1 u1 x2 T1 T2 hs h2 hl ⟨β1, D1, S1, q1, q2, q3, q4⟩ hov => by
      obtain ⟨β', D', S', ov, k1, k2, k3, k4, k6, k5⟩ := ih (i + 1) x2 r T2 β1 D1 S1 _ hps2 h2 (hs.r.trans hT) q1 ((hf.le hs.r).grew q4 hs.d.symm) (fun z hz => by
        rw [updAll_out _ _ _ fun x hx e => ?_]
        · exact hn z (by omega)
        · have := (hl x hx).2; omega)
      refine ⟨β', D', S', u1 ++ ov, by rw [updAll_app]; exact k1, ⟨DR.imp (fun c v h => h.grew k5) _ _ q2, k2⟩, ?_, All2.app _ _ _ _ (All2.imp (fun c v h => h.grew k5) _ _ q3) k4, hov ov k6, q4.trans k5 hs.l hs.r⟩
      rw [List.map_cons, k3, List.range'_succ]
    cases p with
    | b κ =>
      obtain ⟨v, us, r, rfl, hp, hh, h2⟩ := hA
      exact plain v r _ x.2 T (CS.le.refl _) h2 (fun β' D' _ => dr_of (cvs_rd κ .rd (.inl rfl) _ _ _ hh) (fun _ _ h => vr_noskip h) (cvs_len κ x.1) hp) fun ov h => h
    | r κ =>
      obtain ⟨b, off, us, r, rfl, hh, hc, h2⟩ := hA
      refine plain _ r _ x.2 T (CS.le.refl _) h2 (fun β' D' _ => ⟨b, off, us, by simp, hh, fun j u hj => ⟨(hc j u hj).1, .inr fun hF => ?_⟩⟩) fun ov h => h
      rcases hF with hF | hF
      · exact (hc j u hj).2 hF
      · obtain ⟨_, _, _, hb, _⟩ := heap_of_cell? (hc j u hj).1
        have := lt_of_heap hb
        exact absurd hF (by show ¬ w.heap.size ≤ b; omega)
    | p κ q q' =>
      obtain ⟨b, off, r, T1, T2, rfl, ⟨us, T', hh, hT', hc⟩, h2, hs⟩ := hA
      have gi := give_ids κ q x.1 (i * 64 + 2)
      have gt := give_top κ q x.1 (i * 64 + 2)
      have hk : 2 * κ.n + 2 ≤ 64 := by unfold psOk at hps; simp only [List.all_cons, Bool.and_eq_true] at hps; exact Nat.le_of_ble_eq_true hps.1
      have hus := H.len _ _ _ _ _ hh
      have hT1 : T1.le T := hs.l
      obtain ⟨β1, D1, S1, g1, g2, g3⟩ := give_sound κ q x.1 (i * 64 + 2) us T' β D S ob hh hr (hf.le (hT'.trans hT1)) (fun z hz => hn z.1 (by have := (gi.2 z hz).1; omega))
      let C : CS := fun b' j => b' = b ∧ off ≤ j ∧ j < off + κ.n
      have hC : ∀ b' j, C b' j → T1 b' j ∧ ¬ T' b' j ∧ b' < w.heap.size := fun b' j ⟨e, h1, h2⟩ => by
        subst e
        have hi : j - off < us.length := by omega
        have := hc (j - off) us[j - off] (by simp [hi])
        rw [show off + (j - off) = j by omega] at this
        exact ⟨this.2.1, this.2.2, this.1.lt⟩
      have hn0 : updAll ob (κ.give q x.1 (i * 64 + 2)).2.1 (i * 64) = .non := by
        rw [updAll_out _ _ _ fun z hz e => ?_]
        · exact hn _ (Nat.le_refl _)
        · have := (gi.2 z hz).1; omega
      have hnD : ∀ o, D1 o → o ≠ i * 64 := fun o d e => g1.dom o d (e ▸ hn0)
      have hfC := (hf.le ((fun b j h => hT1 b j (hC b j h).1) : C.le T)).grew g3 (fun b j c t => (hC b j c).2.1 t)
      have hnew := g1.new (i * 64) hn0 ⟨b, off, none, 0, 0, 0⟩ (.box (κ.give q x.1 (i * 64 + 2)).1) (by simp) C hfC.f hfC.b hfC.z (fun o _ => hfC.s o) (by
        intro j c hj
        obtain ⟨u, h1, h2⟩ := All2.get _ _ g2 j c hj
        have hlt : j < κ.n := by rw [← give_len κ q x.1 (i * 64 + 2)]; exact (List.getElem?_eq_some_iff.1 hj).1
        rw [upd_same]
        exact ⟨⟨rfl, by show off ≤ off + j; omega, by show off + j < off + κ.n; omega⟩, u, (hc j u h1).1, h2.mono (fun o d => ⟨.inl d, upd_ne _ _ (hnD o d)⟩) (CS.le.refl _) (Agr.refl CS.no w) (fun _ _ t => t.elim) (fun _ _ t => t.elim)⟩)
      have hvr : VR (X0 P n W w Z) (upd β1 (i * 64) ⟨b, off, none, 0, 0, 0⟩) (fun o => D1 o ∨ o = i * 64) Z w (.box (i * 64) 0) (.pointer (some ⟨b, off, none⟩)) := ⟨.inr rfl, by rw [upd_same]; rfl⟩
      have hdr : DR (VR (X0 P n W w Z) (upd β1 (i * 64) ⟨b, off, none, 0, 0, 0⟩) (fun o => D1 o ∨ o = i * 64) Z w) (.v false [.box (i * 64) 0]) (.pointer (some ⟨b, off, none⟩)) := hvr
      refine owned _ r (.v false [.box (i * 64) 0]) ((i * 64, .box (κ.give q x.1 (i * 64 + 2)).1) :: (κ.give q x.1 (i * 64 + 2)).2.1) [.box (i * 64) 0] [_] x.2 T1 T2 hs h2 (fun z hz => ?_) ⟨_, _, upd S1 (i * 64) C, ?_, hdr, ⟨hvr, trivial⟩, fun o d => ?_, fun o b' j s => ?_⟩ fun ov h => ⟨ov, rfl, h⟩
      · rcases List.mem_cons.1 hz with rfl | hz
        · exact ⟨Nat.le_refl _, by show i * 64 < (i + 1) * 64; omega⟩
        · have := gi.2 z hz; omega
      · have e : updAll ob ((i * 64, .box (κ.give q x.1 (i * 64 + 2)).1) :: (κ.give q x.1 (i * 64 + 2)).2.1) = upd (updAll ob (κ.give q x.1 (i * 64 + 2)).2.1) (i * 64) (.box (κ.give q x.1 (i * 64 + 2)).1) :=
          upd_updAll _ _ _ _ fun z hz e => by have := (gi.2 z hz).1; omega
        rw [e]; exact hnew
      · have := g3.d o d
        exact ⟨.inl this.1, (upd_ne _ _ (hnD o this.1)).trans this.2⟩
      · by_cases e : o = i * 64
        · subst e; rw [upd_same] at s; exact .inr (hC b' j s).1
        · rw [upd_ne _ _ e] at s
          exact (g3.s o b' j s).imp (fun h => h) (hT' b' j)
    | m κ =>
      obtain ⟨v, us, r, T1, T2, rfl, hp, hh, h2, hs⟩ := hA
      have gi := give_ids κ .dp x.1 (i * 64)
      have gt := give_top κ .dp x.1 (i * 64)
      have hk : 2 * κ.n ≤ 64 := by unfold psOk at hps; simp only [List.all_cons, Bool.and_eq_true] at hps; exact Nat.le_of_ble_eq_true hps.1
      obtain ⟨β1, D1, S1, g1, g2, g3⟩ := give_sound κ .dp x.1 (i * 64) us T1 β D S ob hh hr (hf.le hs.l) (fun z hz => hn z.1 (gi.2 z hz).1)
      exact owned v r _ _ _ us x.2 T1 T2 hs h2 (fun z hz => by have := gi.2 z hz; omega) ⟨β1, D1, S1, g1, dr_of g2 (fun _ _ h => vr_noskip h) (give_len κ .dp x.1 _) hp, g2, g3⟩ fun ov h => ⟨us, ov, rfl, hp, H.len _ _ _ _ _ hh, h⟩
    | c e d =>
      obtain ⟨v, r, T1, T2, rfl, hh, h2, hs⟩ := hA
      have hh' : ∃ A c, [v] = [Value.slice A x.1.length c] ∧ OwnSl w e.n (HL (H Z w (bif d then .dp else .rd) e) x.1) A x.1.length c T1 := by
        cases d <;> exact hh
      obtain ⟨A, c, hv, hO⟩ := hh'
      cases hv
      have hn0 := hn (i * 64) (Nat.le_refl _)
      have hnD : ∀ o, D o → o ≠ i * 64 := fun o dd e => hr.dom o dd (e ▸ hn0)
      have hf1 := hf.le hs.l
      have hvr : VR (X0 P n W w Z) (upd β (i * 64) ⟨0, 0, A, x.1.length, c, e.n⟩) (fun o => D o ∨ o = i * 64) Z w (.arr (i * 64)) (.slice A x.1.length c) := ⟨.inr rfl, by rw [upd_same]⟩
      have hdr : DR (VR (X0 P n W w Z) (upd β (i * 64) ⟨0, 0, A, x.1.length, c, e.n⟩) (fun o => D o ∨ o = i * 64) Z w) (.v false [.arr (i * 64)]) (.slice A x.1.length c) := hvr
      refine owned _ r (.v false [.arr (i * 64)]) [(i * 64, .arr e d false x.1)] [] [] x.2 T1 T2 hs h2 (fun z hz => ?_) ⟨_, _, _, hr.new (i * 64) hn0 ⟨0, 0, A, x.1.length, c, e.n⟩ (.arr e d false x.1) (by simp) T1 hf1.f hf1.b hf1.z (fun o _ => hf1.s o) ?_, hdr, trivial, fun o dd => ⟨.inl dd, upd_ne _ _ (hnD o dd)⟩, fun o b' j s => ?_⟩ fun ov h => h
      · rw [List.mem_singleton.1 hz]; exact ⟨Nat.le_refl _, by show i * 64 < (i + 1) * 64; omega⟩
      · show _ ∧ _ ∧ _
        rw [upd_same]
        exact ⟨rfl, rfl, hO⟩
      · by_cases e : o = i * 64
        · subst e; rw [upd_same] at s; exact .inr s
        · rw [upd_ne _ _ e] at s; exact .inl s
    | z e =>
      obtain ⟨A, r, rfl, h2⟩ := hA
      exact plain _ r _ x T (CS.le.refl _) h2 (fun β' D' _ => ⟨A, rfl⟩) fun ov h => h
    | f p q =>
      obtain ⟨v, r, rfl, hfn, h2⟩ := hA
      exact plain v r _ x.2 T (CS.le.refl _) h2 (fun β' D' _ => hfn) fun ov h => h
end
end Go.Dn
/- What a function leaves; what a function's code is worth: a contract. -/
set_option linter.unusedVariables false
namespace Go.Dn

theorem mapM_run {α β : Type} {P : Program} {w : World} {f : α → Sem β} {xs0 : Array α} {vs : List β} (hl : vs.length = xs0.size) (h : ∀ i (hi : i < xs0.size) (hv : i < vs.length), (f xs0[i]).run P w = .ok vs[i] w) : (xs0.mapM f).run P w = .ok vs.toArray w := by
  have key : ∀ (l : List α) (us : List β), us.length = l.length → (∀ i (hi : i < l.length) (hv : i < us.length), (f l[i]).run P w = .ok us[i] w) → (l.mapM f).run P w = .ok us w := by
    intro l
    induction l with
    | nil =>
      intro us hl _
      match us, hl with
      | [], _ => rfl
    | cons x l ih =>
      intro us hl h
      match us, hl with
      | u :: us, hl =>
        have h0 := h 0 (by simp) (by simp)
        simp only [List.getElem_cons_zero] at h0
        rw [List.mapM_cons]
        simp only [Sem.run_bind, h0, Result.andThen_ok]
        rw [ih us (by simpa using hl) fun i hi hv => by
          have := h (i + 1) (by simpa using hi) (by simpa using hv)
          simpa using this]
        rfl
  rw [Array.mapM_eq_mapM_toList, map_eq_pure_bind]
  simp only [Sem.run_bind]
  rw [key xs0.toList vs (by simpa using hl) fun i hi hv => by simpa using h i (by simpa using hi) hv]
  rfl

section
variable {X : Cx} {β : Nat → Pl} {D : Nat → Prop} {S : Nat → CS} {Z : CS} {outs : List CV} {a : Act} {w : World} {st : St}
theorem results_run {fn : Func} {tmps : Array Value} {P : Program} {vs : List Value} (hl : vs.length = fn.results.size)
    (h : ∀ i (hi : i < fn.results.size) (hv : i < vs.length), (match fn.results[i] with | .tmp t => (pure (tmps.getD t undef) : Sem Value) | .cell a t => (do loadVar t (← asAddr (tmps.getD a undef)))).run P w = .ok vs[i] w) : (results fn tmps).run P w = .ok (resV vs) w := by
  unfold results
  rw [Sem.run_bind, mapM_run hl (fun i hi hv => by
    have := h i hi hv
    revert this
    generalize fn.results[i] = r
    cases r <;> exact fun h => h)]
  simp only [Result.andThen_ok, Sem.run_pure]
  congr 1
  match vs with
  | [] => rfl
  | [v] => rfl
  | _ :: _ :: _ => rfl
theorem resultM_sound (hr : RelAt X β D S Z st.slot st.ob outs a w) {E : Env} (hE : TysOk X.P E) {r : ResultVar} {κ : K} {cs : List CV} (h : (resultM E st r κ).ev st.ob = some cs) :
    ∃ v us, (match r with | .tmp t => (pure (a.tmps.getD t undef) : Sem Value) | .cell b t => (do loadVar t (← asAddr (a.tmps.getD b undef)))).run X.P w = .ok v w ∧ pk κ us v ∧ All2 (VR X β D Z w) cs us := by
  cases r with
  | tmp t =>
    obtain ⟨us, h1, h2⟩ := dr_as (hr.slots t) h
    exact ⟨_, us, rfl, h1, h2⟩
  | cell b t =>
    simp only [resultM] at h
    obtain ⟨κ', h1, h2⟩ := ev_bind_some h
    obtain ⟨rfl, h3⟩ := ev_eqK h2
    obtain ⟨c, h4, h5⟩ := ev_bind_some h3
    have ht := hE.1 _ _ (ev_ofO h1)
    have hc := dr_cell_ok (hr.slots b) h4 (fun e => by rw [e] at h5; cases h5) (fun e => by rw [e] at h5; cases h5)
    obtain ⟨h6, us, h7, h8, b', off, hv, h9⟩ := loadM_sound hr hc h5
    have hrun : ∀ v, (loadVar t ⟨b', off, none⟩).run X.P w = .ok v w → (do loadVar t (← asAddr (a.tmps.getD b undef)) : Sem Value).run X.P w = .ok v w := fun v hv' => by
      rw [hv]
      simp [asAddr, hv']
    cases hk : κ'.agg with
    | true =>
      refine ⟨.agg us.toArray, us, hrun _ ?_, by simp [pk, hk], h8⟩
      have := run_loadCells_list (P := X.P) w ⟨b', off, none⟩ us fun j v hj => by rw [addr_add]; exact h9 j v hj
      rw [h7] at this
      simp [loadVar, run_isAgg' ht, run_sizeOf' ht, hk, this]
    | false =>
      have h10 : κ'.n = 1 := agg_cells hk
      rw [h10] at h7
      match us, h7, h8, h9 with
      | [u], _, h8, h9 =>
        refine ⟨u, [u], hrun u ?_, by simp [pk, hk], h8⟩
        have := h9 0 u rfl
        simp at this
        simp [loadVar, run_isAgg' ht, hk, this]
theorem resultsM_sound (hr : RelAt X β D S Z st.slot st.ob outs a w) {E : Env} (hE : TysOk X.P E) : ∀ (rv : List ResultVar) (rs : List (K × Q)) (y : Sig.Res rs × List Nat × List Nat), (resultsM E st rv rs).ev st.ob = some y → y.2.1.Nodup → (∀ o ∈ y.2.2, o ∉ y.2.1) →
    ∃ vs T Z', vs.length = rv.length ∧ (∀ (i : Nat) r v, rv[i]? = some r → vs[i]? = some v → (match r with | .tmp t => (pure (a.tmps.getD t undef) : Sem Value) | .cell b t => (do loadVar t (← asAddr (a.tmps.getD b undef)))).run X.P w = .ok v w) ∧ ResR Z' w rs y.1 vs T ∧
      T.le (US S y.2.1) ∧ Z.le Z' ∧ Z'.le (Z.or (US S (y.2.1 ++ y.2.2))) ∧ T.apart Z'
  | [], [], y, h, _, _ => by
    cases h
    exact ⟨[], CS.no, Z, rfl, fun i r v h => (by simp at h), rfl, CS.no_le _, CS.le.refl _, CS.le_l _ _, CS.no_apart _⟩
  | [], _ :: _, y, h, _, _ => by cases h
  | _ :: _, [], y, h, _, _ => by cases h
  | r :: rv, (κ, q) :: rs, y, h, hnd, hap => by
    simp only [resultsM] at h
    obtain ⟨cs, h1, h2⟩ := ev_bind_some h
    obtain ⟨x, h3, h4⟩ := ev_bind_some h2
    obtain ⟨y2, h5, h6⟩ := ev_bind_some h4
    cases h6
    simp only at hnd hap
    have n0 := List.nodup_append.1 hnd
    obtain ⟨v, us, k1, k2, k3⟩ := resultM_sound hr hE h1
    obtain ⟨T1, Z1, g⟩ := ofAll_sound hr h3 k3 n0.1 (fun o ho h => hap o (List.mem_append.2 (.inl ho)) (List.mem_append.2 (.inl h)))
    obtain ⟨vs, T2, Z2, q1, q2, q3, q4, q5, q6, q7⟩ := resultsM_sound hr hE rv rs y2 h5 n0.2.1 (fun o ho h => hap o (List.mem_append.2 (.inr ho)) (List.mem_append.2 (.inr h)))
    have hdd : ∀ o ∈ x.dead, o ∉ y2.2.1 := fun o h h' => n0.2.2 o h o h' rfl
    refine ⟨v :: vs, T1.or T2, Z1.or Z2, by simp [q1], fun i r' v' hr' hv' => ?_, ⟨v, us, vs, T1, T2, rfl, k2, H.more (CS.le_l _ _) _ _ _ _ _ g.h, ResR.more (CS.le_r _ _) _ _ _ _ q3, CS.le_l _ _, CS.le_r _ _, (US.apart hr hdd).mono g.t q4⟩, ?_, g.z.trans (CS.le_l _ _), ?_, ?_⟩
    · cases i with
      | zero => simp at hr' hv'; subst hr'; subst hv'; exact k1
      | succ i => exact q2 i r' v' (by simpa using hr') (by simpa using hv')
    · exact CS.or_le (g.t.trans (US.le fun o h => List.mem_append.2 (.inl h))) (q4.trans (US.le fun o h => List.mem_append.2 (.inr h)))
    · exact CS.or_le (g.z'.trans (CS.or_le (CS.le_l _ _) ((US.le fun o h => by simp at h ⊢; rcases h with h | h; exact .inl h; exact .inr (.inr (.inl h))).trans (CS.le_r _ _)))) (q6.trans (CS.or_le (CS.le_l _ _) ((US.le fun o h => by simp at h ⊢; rcases h with h | h; exact .inr (.inl h); exact .inr (.inr (.inr h))).trans (CS.le_r _ _))))
    · refine CS.or_apart (CS.apart_or g.d (two_apart hr g.t q6 fun o ho h => ?_)) (CS.apart_or (two_apart hr q4 g.z' fun o ho h => ?_) q7)
      · rcases List.mem_append.1 h with h | h
        · exact hdd o ho h
        · exact hap o (List.mem_append.2 (.inr h)) (List.mem_append.2 (.inl ho))
      · rcases List.mem_append.1 h with h | h
        · exact hdd o h ho
        · exact hap o (List.mem_append.2 (.inl h)) (List.mem_append.2 (.inr ho))
theorem outP_sound (hr : RelAt X β D S Z st.slot st.ob outs a w) : ∀ (ps : List PM) (cs : List CV) (vs ov : List Value) (y : Sig.OutP ps × List Nat × List Nat), (outPM ps cs).ev st.ob = some y → All2 (VR X β D Z w) cs ov → OVR ps vs ov → y.2.1.Nodup → (∀ o ∈ y.2.2, o ∉ y.2.1) →
    ∃ T Z', OutsR Z' w ps y.1 vs T ∧ T.le (US S y.2.1) ∧ Z.le Z' ∧ Z'.le (Z.or (US S (y.2.1 ++ y.2.2))) ∧ T.apart Z' := by
  intro ps
  induction ps with
  | nil =>
    intro cs vs ov y h hall ho hnd hap
    match cs with
    | [] => cases h; exact ⟨CS.no, Z, trivial, CS.no_le _, CS.le.refl _, CS.le_l _ _, CS.no_apart _⟩
    | _ :: _ => cases h
  | cons p ps ih =>
    intro cs vs ov y h hall ho hnd hap
    cases p with
    | b κ =>
      match vs, ho with
      | v :: vs, ho => exact ih cs vs ov y h hall ho hnd hap
    | r κ =>
      match vs, ho with
      | v :: vs, ho => exact ih cs vs ov y h hall ho hnd hap
    | c e d =>
      match vs, ho with
      | v :: vs, ho => exact ih cs vs ov y h hall ho hnd hap
    | z e =>
      match vs, ho with
      | v :: vs, ho => exact ih cs vs ov y h hall ho hnd hap
    | f p q =>
      match vs, ho with
      | v :: vs, ho => exact ih cs vs ov y h hall ho hnd hap
    | p κ q q' =>
      match vs, ho with
      | v :: vs, ⟨r, e, ho'⟩ =>
        subst e
        clear ho
        have ho := ho'
        have hcs : ∃ o cs1, cs = .box o 0 :: cs1 := by
          match cs with
          | [] => cases h
          | c :: cs1 =>
            cases c <;> try (cases h; done)
            rename_i o j
            cases j with
            | zero => exact ⟨o, cs1, rfl⟩
            | succ j => cases h
        obtain ⟨o, cs1, rfl⟩ := hcs
        · obtain ⟨⟨hD, hv⟩, hall⟩ := hall
          simp only [outPM] at h
          simp only [M.ev] at h
          split at h
          · rename_i c hoc
            obtain ⟨x, h3, h4⟩ := ev_bind_some h
            obtain ⟨y2, h5, h6⟩ := ev_bind_some h4
            cases h6
            simp only at hnd hap
            have hob := hr.objs o
            rw [hoc] at hob
            obtain ⟨us0, g1, g2⟩ := gather (R := fun c v => VR X β D Z w c v) (w := w) (b := (β o).b) c (β o).j fun i c' hi => by
              obtain ⟨_, v, h1, h2⟩ := hob i c' hi; exact ⟨v, h1.1, h2⟩
            have n0 := List.nodup_cons.1 hnd
            have n1 := List.nodup_append.1 n0.2
            have hdd : ∀ o ∈ x.dead, o ∉ y2.2.1 := fun o h h' => n1.2.2 o h o h' rfl
            obtain ⟨T1, Z1, g⟩ := ofAll_sound hr h3 g1 n1.1 (fun o ho h => hap o (List.mem_append.2 (.inl ho)) (.tail _ (List.mem_append.2 (.inl h))))
            obtain ⟨T2, Z2, q3, q4, q5, q6, q7⟩ := ih cs1 vs r y2 h5 hall ho n1.2.1 (fun o ho h => hap o (List.mem_append.2 (.inr ho)) (.tail _ (List.mem_append.2 (.inr h))))
            have hox : o ∉ x.dead := fun h => n0.1 (List.mem_append.2 (.inl h))
            have hoy : o ∉ y2.2.1 := fun h => n0.1 (List.mem_append.2 (.inr h))
            have hT1 : (CS.or (S o) T1).le (US S (o :: x.dead)) := CS.or_le (fun b i hh => ⟨o, .head _, hh⟩) (g.t.trans (US.le fun z hz => .tail _ hz))
            refine ⟨(CS.or (S o) T1).or T2, Z1.or Z2, ⟨(β o).b, (β o).j, vs, _, T2, by rw [hv, Nat.add_zero], ⟨us0, T1, H.more (CS.le_l _ _) _ _ _ _ _ g.h, CS.le_r _ _, fun i u hi => ?_⟩, OutsR.more (CS.le_r _ _) _ _ _ _ q3, CS.le_l _ _, CS.le_r _ _, ?_⟩, ?_, g.z.trans (CS.le_l _ _), ?_, ?_⟩
            · have hlt : i < c.length := by rw [g1.len]; exact (List.getElem?_eq_some_iff.1 hi).1
              obtain ⟨k1, v', k2, k3⟩ := hob i c[i] (by simp [hlt])
              have e : v' = u := by have := g2 i u hi; rw [k2.1] at this; exact Option.some.inj this
              refine ⟨e ▸ k2, .inl k1, fun t => ?_⟩
              obtain ⟨z, hz, s⟩ := g.t _ _ t
              exact hr.apart o z (fun e => hox (e ▸ hz)) _ _ k1 s
            · exact (US.apart hr fun z hz h' => by
                rcases List.mem_cons.1 hz with e | hz
                · rw [e] at h'; exact hoy h'
                · exact hdd z hz h').mono hT1 q4
            · exact CS.or_le (hT1.trans (US.le fun z hz => by
                rcases List.mem_cons.1 hz with rfl | hz
                · exact .head _
                · exact .tail _ (List.mem_append.2 (.inl hz)))) (q4.trans (US.le fun z hz => .tail _ (List.mem_append.2 (.inr hz))))
            · exact CS.or_le (g.z'.trans (CS.or_le (CS.le_l _ _) ((US.le fun z h => by simp at h ⊢; rcases h with h | h; exact .inr (.inl h); exact .inr (.inr (.inr (.inl h)))).trans (CS.le_r _ _)))) (q6.trans (CS.or_le (CS.le_l _ _) ((US.le fun z h => by simp at h ⊢; rcases h with h | h; exact .inr (.inr (.inl h)); exact .inr (.inr (.inr (.inr h)))).trans (CS.le_r _ _))))
            · refine CS.or_apart (CS.or_apart (CS.apart_or ?_ ?_) (CS.apart_or g.d ?_)) (CS.apart_or ?_ q7)
              · exact two_apart hr (I1 := [o]) (fun b i hh => ⟨o, .head _, hh⟩) g.z' fun z hz h => by
                  rw [List.mem_singleton.1 hz] at h
                  rcases List.mem_append.1 h with h | h
                  · exact hox h
                  · exact hap o (List.mem_append.2 (.inl h)) (.head _)
              · exact two_apart hr (I1 := [o]) (fun b i hh => ⟨o, .head _, hh⟩) q6 fun z hz h => by
                  rw [List.mem_singleton.1 hz] at h
                  rcases List.mem_append.1 h with h | h
                  · exact hoy h
                  · exact hap o (List.mem_append.2 (.inr h)) (.head _)
              · exact two_apart hr g.t q6 fun z hz h => by
                  rcases List.mem_append.1 h with h | h
                  · exact hdd z hz h
                  · exact hap z (List.mem_append.2 (.inr h)) (.tail _ (List.mem_append.2 (.inl hz)))
              · exact two_apart hr q4 g.z' fun z hz h => by
                  rcases List.mem_append.1 h with h | h
                  · exact hdd z h hz
                  · exact hap z (List.mem_append.2 (.inl h)) (.tail _ (List.mem_append.2 (.inr hz)))
          · cases h
    | m κ =>
      match vs, ho with
      | v :: vs, ⟨us, r, e, hp, hl, ho'⟩ =>
        subst e
        clear ho
        have ho := ho'
        simp only [outPM] at h
        obtain ⟨c, h1, h2⟩ := ev_bind_some h
        obtain ⟨x, h3, h4⟩ := ev_bind_some h2
        obtain ⟨y2, h5, h6⟩ := ev_bind_some h4
        cases h6
        obtain ⟨rfl, hlc⟩ := ev_takeN h1
        simp only at hnd hap
        have n0 := List.nodup_append.1 hnd
        have hdd : ∀ o ∈ x.dead, o ∉ y2.2.1 := fun o h h' => n0.2.2 o h o h' rfl
        have a1 := hall.take κ.n
        have a2 := hall.drop κ.n
        rw [← hl] at a1 a2
        simp only [List.take_left, List.drop_left] at a1 a2
        rw [hl] at a1 a2
        obtain ⟨T1, Z1, g⟩ := ofAll_sound hr h3 a1 n0.1 (fun o ho h => hap o (List.mem_append.2 (.inl ho)) (List.mem_append.2 (.inl h)))
        obtain ⟨T2, Z2, q3, q4, q5, q6, q7⟩ := ih _ vs r y2 h5 a2 ho n0.2.1 (fun o ho h => hap o (List.mem_append.2 (.inr ho)) (List.mem_append.2 (.inr h)))
        refine ⟨T1.or T2, Z1.or Z2, ⟨v, us, vs, T1, T2, rfl, hp, H.more (CS.le_l _ _) _ _ _ _ _ g.h, OutsR.more (CS.le_r _ _) _ _ _ _ q3, CS.le_l _ _, CS.le_r _ _, (US.apart hr hdd).mono g.t q4⟩, ?_, g.z.trans (CS.le_l _ _), ?_, ?_⟩
        · exact CS.or_le (g.t.trans (US.le fun o h => List.mem_append.2 (.inl h))) (q4.trans (US.le fun o h => List.mem_append.2 (.inr h)))
        · exact CS.or_le (g.z'.trans (CS.or_le (CS.le_l _ _) ((US.le fun o h => by simp at h ⊢; rcases h with h | h; exact .inl h; exact .inr (.inr (.inl h))).trans (CS.le_r _ _)))) (q6.trans (CS.or_le (CS.le_l _ _) ((US.le fun o h => by simp at h ⊢; rcases h with h | h; exact .inr (.inl h); exact .inr (.inr (.inr h))).trans (CS.le_r _ _))))
        · refine CS.or_apart (CS.apart_or g.d (two_apart hr g.t q6 fun o ho h => ?_)) (CS.apart_or (two_apart hr q4 g.z' fun o ho h => ?_) q7)
          · rcases List.mem_append.1 h with h | h
            · exact hdd o ho h
            · exact hap o (List.mem_append.2 (.inr h)) (List.mem_append.2 (.inl ho))
          · rcases List.mem_append.1 h with h | h
            · exact hdd o h ho
            · exact hap o (List.mem_append.2 (.inl h)) (List.mem_append.2 (.inr ho))
end
theorem look_slots {R : DV → Value → Prop} (hu : ∀ v, R (.v false [.und]) v) : ∀ (l : List (Nat × DV)) (vs : List Value) (i t : Nat), All2 (fun s v => R s.2 v) l vs → l.map (·.1) = List.range' i l.length → R (look (.v false [.und]) l t) ((vs[t - i]?).getD undef)
  | [], vs, i, t, h, hk => hu _
  | (j, d) :: l, [], i, t, h, hk => (h : False).elim
  | (j, d) :: l, v :: vs, i, t, ⟨h1, h2⟩, hk => by
    simp only [List.map_cons, List.length_cons, List.range'_succ] at hk
    have e1 := (List.cons.inj hk).1
    have e2 := (List.cons.inj hk).2
    subst e1
    simp only [look]
    cases hb : Nat.beq j t with
    | true =>
      have := Nat.eq_of_beq_eq_true hb
      subst this
      simpa using h1
    | false =>
      simp only [cond_false]
      by_cases hlt : j < t
      · have := look_slots hu l vs (j + 1) t h2 e2
        rwa [show t - j = (t - (j + 1)) + 1 by omega, List.getElem?_cons_succ]
      · have hno : look (.v false [.und]) l t = .v false [.und] := by
          have : ∀ (l : List (Nat × DV)) (i : Nat), l.map (·.1) = List.range' i l.length → t < i → look (.v false [.und]) l t = .v false [.und] := by
            intro l
            induction l with
            | nil => intro _ _ _; rfl
            | cons x l ih =>
              intro i hk hi
              simp only [List.map_cons, List.length_cons, List.range'_succ] at hk
              have e1 := (List.cons.inj hk).1
              simp only [look]
              rw [beq_ne (by omega)]
              exact ih (i + 1) (List.cons.inj hk).2 (by omega)
          refine this l (j + 1) e2 ?_
          have hne : j ≠ t := fun e => by rw [e, beq_self] at hb; cases hb
          omega
        rw [hno]; exact hu _
theorem contract_of {P : Program} {E : Env} {k : Nat} (hE : EnvOk P E k) {f : FuncId} {fn : Func} {c : Code} (hf : P.funcs[f]? = some fn) (hb : fn.body = some c) (hname : (fn.name == "runtime.NumGoroutine") = false) {sg : Sig} {hd : Hints} {ls : List (Nat × Lp sg.Out)} (hl : LoopsOk E k hd ls (loopsOf c)) {F : Sig.In sg.ps → Option sg.Out}
    (hF : ∀ x, denFn E k fn sg hd (runL k hd ls) x = F x) : Contract P f sg F := by
  refine ⟨fn, hf, by rw [hb]; rfl, hname, fun x y hy w Z W vs hZb hWb hWZ hA => ?_⟩
  rw [← hF] at hy
  unfold denFn at hy
  rw [hb] at hy
  simp only at hy
  cases hchk : (dstsOk fn.ntmps c && (Nat.ble sg.ps.length fn.ntmps && psOk sg.ps)) with
  | false => rw [hchk] at hy; cases hy
  | true =>
    rw [hchk] at hy
    simp only [Bool.and_eq_true] at hchk
    simp only [cond_true] at hy
    have hlen := hA.len
    have hnt := Nat.le_of_ble_eq_true hchk.2.1
    refine calls_of_wp hf hb ?_
    have hsz : (vs.toArray ++ Array.replicate (fn.ntmps - vs.toArray.size) undef).size = fn.ntmps := by simp; omega
    have hr0 : RelAt (X0 P fn.ntmps W w Z) (fun _ => ⟨0, 0, none, 0, 0, 0⟩) (fun _ => False) (fun _ => CS.no) Z (fun _ => .v false [.und]) (fun _ => .non) [] { tmps := vs.toArray ++ Array.replicate (fn.ntmps - vs.toArray.size) undef, defers := [] } w :=
      ⟨hsz, rfl, fun _ => trivial, fun _ => trivial, trivial, fun _ h => h.elim, fun _ _ _ => CS.no_apart _, fun _ => CS.no_apart _, fun _ => ⟨CS.no_le _, fun _ _ h => h.elim⟩, fun b j z => .inl z, hZb, CS.le.refl _, Agr.refl _ _⟩
    obtain ⟨β, D, S, ov, k1, k2, k3, k4, k5, _⟩ := entryAll_sound sg.ps 0 x vs W _ _ _ _ hchk.2.2 hA (CS.le.refl _) hr0 ⟨fun b j t => .inl t, hWb, hWZ, fun _ => CS.apart_no _⟩ (fun _ _ => rfl)
    let X : Cx := ⟨P, fn.ntmps, W, w, Z, ov⟩
    have hlk := k2.len
    have hrE : Rel X (entry sg.ps x) { tmps := vs.toArray ++ Array.replicate (fn.ntmps - vs.toArray.size) undef, defers := [] } w := by
      refine ⟨β, D, S, Z, ?_⟩
      have eob : (entry sg.ps x).ob = updAll (fun _ => OB.non) (entryAll 0 sg.ps x).2.1 := by
        funext i
        show look .non (entryAll 0 sg.ps x).2.1 i = _
        exact look_updAll _ i (entry_nodup sg.ps 0 x hchk.2.2).1
      constructor
      · exact k1.size
      · rfl
      · intro t
        show DR _ (look _ (entryAll 0 sg.ps x).1 t) _
        have h1 := look_slots (R := DR (VR X β D Z w)) (fun v => trivial) (entryAll 0 sg.ps x).1 vs 0 t (All2.imp (fun s v h => DR.imp (fun c v h => vr_ov [] ov h) _ _ h) _ _ k2) (by rw [k3, hlk, hlen])
        have e : (vs.toArray ++ Array.replicate (fn.ntmps - vs.toArray.size) undef).getD t undef = (vs[t - 0]?).getD undef := by
          rw [Array.getD_eq_getD_getElem?, Nat.sub_zero]
          by_cases ht : t < vs.length
          · rw [Array.getElem?_append_left (by simpa using ht)]; simp
          · rw [Array.getElem?_append_right (by simpa using ht), Array.getElem?_replicate, List.getElem?_eq_none (by omega)]
            split <;> rfl
        simp only
        rw [e]; exact h1
      · intro o
        rw [eob]
        exact or_ov [] ov (k1.objs o)
      · exact All2.imp (fun c v h => vr_ov [] ov h) _ _ k4
      · intro o d
        rw [eob]
        exact k1.dom o d
      · exact k1.apart
      · exact k1.sz
      · exact k1.sin
      · exact k1.zin
      · exact k1.zbd
      · exact k1.z0
      · exact k1.agr
    refine den_sound (X := X) hE c hchk.1 hl _ _ _ w _ hy hrE fun e st a w' hr hc0 => ?_
    have hc : finish E sg fn.results.toList st = some y := by
      cases e with
      | normal => exact hc0
      | ret => exact hc0
      | exit id => cases hc0
    have hex : e = .normal ∨ e = .ret := by
      cases e with
      | normal => exact .inl rfl
      | ret => exact .inr rfl
      | exit id => exact absurd hc0 (by simp [hard])
    obtain ⟨β', D', S', Z', hr⟩ := hr
    unfold finish at hc
    obtain ⟨y', lg, h1, h2⟩ := M.run_some _ _ _ _ hc
    cases h2
    obtain ⟨x1, h3, h4⟩ := ev_bind_some h1
    obtain ⟨y1, h5, h6⟩ := ev_bind_some h4
    cases hck : (nodupN (x1.2.1 ++ y1.2.1) && apartN (x1.2.2 ++ y1.2.2) (x1.2.1 ++ y1.2.1)) with
    | false => rw [hck] at h6; cases h6
    | true =>
      rw [hck] at h6
      cases h6
      simp only [Bool.and_eq_true] at hck
      have hnd := nodupN_ok hck.1
      have hap := apartN_ok hck.2
      have n0 := List.nodup_append.1 hnd
      obtain ⟨rvs, T1, Z1, q1, q2, q3, q4, q5, q6, q7⟩ := resultsM_sound hr hE.ty _ _ x1 h3 n0.1 (fun o ho h => hap o (List.mem_append.2 (.inl ho)) (List.mem_append.2 (.inl h)))
      obtain ⟨T2, Z2, p3, p4, p5, p6, p7⟩ := outP_sound hr sg.ps st.outs vs ov y1 h5 hr.outs k5 n0.2.1 (fun o ho h => hap o (List.mem_append.2 (.inr ho)) (List.mem_append.2 (.inr h)))
      have hdd : ∀ o ∈ x1.2.1, o ∉ y1.2.1 := fun o h h' => n0.2.2 o h o h' rfl
      have hSF : ∀ (l : List Nat) b j, US S' l b j → W b j ∨ w.heap.size ≤ b := fun l b j ⟨o, _, s⟩ => (hr.sin o).1 b j s
      have hSB : ∀ (l : List Nat) b j, US S' l b j → b < w'.heap.size := fun l b j ⟨o, _, s⟩ => (hr.sin o).2 b j s
      have hZF : ∀ b j, Z' b j → Z b j ∨ W b j ∨ w.heap.size ≤ b := fun b j z => hr.zin b j z
      have hrun : (results fn a.tmps).run P w' = .ok (resV rvs) w' := results_run (by rw [q1]; simp) fun i hi hv => q2 i _ _ (by simp [hi]) (by simp [hv])
      have hpost : bodyPost P fn (fun e w'_1 => ∃ v rv Z' T1 T2, e = .returned v ∧ Ended Z W w sg vs (x1.1, y1.1) v w'_1 rv Z' T1 T2) .ret a w' := by
        refine ⟨hr.defers, _, hrun, _, rvs, Z1.or Z2, T1, T2, rfl, rfl, hr.agr, hr.z0.trans (q5.trans (CS.le_l _ _)), fun b j z => ?_, fun b j z => ?_, ResR.more (CS.le_l _ _) _ _ _ _ q3, OutsR.more (CS.le_r _ _) _ _ _ _ p3, (US.apart hr hdd).mono q4 p4, CS.apart_or q7 (two_apart hr q4 p6 fun o ho h => ?_), CS.apart_or (two_apart hr p4 q6 fun o ho h => ?_) p7, fun b j t => hSB _ b j (q4 b j t), fun b j t => hSB _ b j (p4 b j t), fun b j t => hSF _ b j (q4 b j t), fun b j t => hSF _ b j (p4 b j t)⟩
        · rcases z with z | z
          · rcases q6 b j z with z | z
            · exact hr.zbd b j z
            · exact hSB _ b j z
          · rcases p6 b j z with z | z
            · exact hr.zbd b j z
            · exact hSB _ b j z
        · rcases z with z | z
          · rcases q6 b j z with z | z
            · exact hZF b j z
            · exact .inr (hSF _ b j z)
          · rcases p6 b j z with z | z
            · exact hZF b j z
            · exact .inr (hSF _ b j z)
        · rcases List.mem_append.1 h with h | h
          · exact hdd o ho h
          · exact hap o (List.mem_append.2 (.inr h)) (List.mem_append.2 (.inl ho))
        · rcases List.mem_append.1 h with h | h
          · exact hdd o h ho
          · exact hap o (List.mem_append.2 (.inl h)) (List.mem_append.2 (.inr ho))
      rcases hex with rfl | rfl
      · exact hpost
      · exact hpost
where
  look_updAll : ∀ (l : List (Nat × OB)) (i : Nat), (l.map (·.1)).Nodup → look OB.non l i = updAll (fun _ => OB.non) l i := by
    intro l i hnd
    have key : ∀ (l : List (Nat × OB)) (f : Nat → OB), (l.map (·.1)).Nodup → updAll f l i = (if i ∈ l.map (·.1) then look OB.non l i else f i) := by
      intro l
      induction l with
      | nil => intro f _; rfl
      | cons x l ih =>
        intro f hnd
        obtain ⟨j, b⟩ := x
        simp only [List.map_cons] at hnd
        have n0 := List.nodup_cons.1 hnd
        show updAll (upd f j b) l i = _
        rw [ih _ n0.2]
        by_cases e : i = j
        · subst e
          rw [if_neg n0.1, if_pos (by simp), upd_same]
          simp [look]
        · rw [upd_ne _ _ e]
          have e2 : Nat.beq j i = false := beq_ne fun h => e h.symm
          simp only [List.map_cons, List.mem_cons, e, false_or, look, e2, cond_false]
    rw [key l _ hnd]
    split
    · rfl
    · rename_i h
      have : ∀ (l : List (Nat × OB)), i ∉ l.map (·.1) → look OB.non l i = .non := by
        intro l
        induction l with
        | nil => intro _; rfl
        | cons x l ih =>
          intro h
          simp only [List.map_cons, List.mem_cons, not_or] at h
          simp only [look]
          rw [beq_ne fun e => h.1 e.symm]
          exact ih h.2
      exact this l h
  give_nodup : ∀ (κ : K) (q : Q) (x : κ.T) (i : Nat), ((κ.give q x i).2.1.map (·.1)).Nodup
    | .int _, q, _, _ => by cases q <;> exact .nil
    | .bool, q, _, _ => by cases q <;> exact .nil
    | .str, q, _, _ => by cases q <;> exact .nil
    | .unit, q, _, _ => by cases q <;> exact .nil
    | .pair a b, q, x, i => by
      simp only [K.give, List.map_append]
      refine List.nodup_append.2 ⟨give_nodup a _ _ _, give_nodup b _ _ _, fun z hz z' hz' e => ?_⟩
      obtain ⟨p, hp, rfl⟩ := List.mem_map.1 hz
      obtain ⟨p', hp', rfl⟩ := List.mem_map.1 hz'
      have h1 := (give_ids a q.l x.1 i).2 p hp
      have h2 := (give_ids b q.r x.2 _).2 p' hp'
      omega
    | .sl _, q, _, _ => by cases q <;> simp [K.give]
  entry_nodup : ∀ (ps : List PM) (i : Nat) (x : Sig.In ps), psOk ps = true → ((entryAll i ps x).2.1.map (·.1)).Nodup ∧ ∀ z ∈ (entryAll i ps x).2.1, i * 64 ≤ z.1 := by
    intro ps
    induction ps with
    | nil => intro i x _; exact ⟨.nil, fun z hz => by cases hz⟩
    | cons p ps ih =>
      intro i x hps
      have hps2 : psOk ps = true := by unfold psOk at hps ⊢; simp only [List.all_cons, Bool.and_eq_true] at hps; exact hps.2
      have fin : ∀ (l r : List (Nat × OB)), (l.map (·.1)).Nodup → (∀ z ∈ l, i * 64 ≤ z.1 ∧ z.1 < (i + 1) * 64) → (r.map (·.1)).Nodup → (∀ z ∈ r, (i + 1) * 64 ≤ z.1) → ((l ++ r).map (·.1)).Nodup ∧ ∀ z ∈ l ++ r, i * 64 ≤ z.1 := fun l r h1 h2 h3 h4 => by
        refine ⟨?_, fun z hz => ?_⟩
        · rw [List.map_append]
          refine List.nodup_append.2 ⟨h1, h3, fun z hz z' hz' e => ?_⟩
          obtain ⟨p, hp, rfl⟩ := List.mem_map.1 hz
          obtain ⟨p', hp', rfl⟩ := List.mem_map.1 hz'
          have := h2 p hp
          have := h4 p' hp'
          omega
        · rcases List.mem_append.1 hz with hz | hz
          · exact (h2 z hz).1
          · have := h4 z hz; omega
      have plain : ∀ x2 : Sig.In ps, ((entryAll (i + 1) ps x2).2.1.map (·.1)).Nodup ∧ ∀ z ∈ (entryAll (i + 1) ps x2).2.1, i * 64 ≤ z.1 := fun x2 => by
        obtain ⟨h1, h2⟩ := ih (i + 1) x2 hps2
        exact ⟨h1, fun z hz => by have := h2 z hz; omega⟩
      cases p with
      | b κ => exact plain x.2
      | r κ => exact plain x.2
      | z e => exact plain x
      | f p q => exact plain x.2
      | c e d =>
        obtain ⟨h1, h2⟩ := ih (i + 1) x.2 hps2
        exact fin [(i * 64, _)] _ (by simp) (fun z hz => by rw [List.mem_singleton.1 hz]; exact ⟨Nat.le_refl _, by show i * 64 < (i + 1) * 64; omega⟩) h1 h2
      | m κ =>
        have hk : 2 * κ.n ≤ 64 := by unfold psOk at hps; simp only [List.all_cons, Bool.and_eq_true] at hps; exact Nat.le_of_ble_eq_true hps.1
        obtain ⟨h1, h2⟩ := ih (i + 1) x.2 hps2
        have gi := give_ids κ .dp x.1 (i * 64)
        have gt := give_top κ .dp x.1 (i * 64)
        exact fin _ _ (give_nodup _ _ _ _) (fun z hz => by have := gi.2 z hz; omega) h1 h2
      | p κ q q' =>
        have hk : 2 * κ.n + 2 ≤ 64 := by unfold psOk at hps; simp only [List.all_cons, Bool.and_eq_true] at hps; exact Nat.le_of_ble_eq_true hps.1
        obtain ⟨h1, h2⟩ := ih (i + 1) x.2 hps2
        have gi := give_ids κ q x.1 (i * 64 + 2)
        have gt := give_top κ q x.1 (i * 64 + 2)
        refine fin ((i * 64, .box (κ.give q x.1 (i * 64 + 2)).1) :: (κ.give q x.1 (i * 64 + 2)).2.1) _ ?_ (fun z hz => ?_) h1 h2
        · rw [List.map_cons]
          refine List.nodup_cons.2 ⟨fun h => ?_, give_nodup _ _ _ _⟩
          obtain ⟨z, hz, e⟩ := List.mem_map.1 h
          have := (gi.2 z hz).1
          simp only at e
          omega
        · rcases List.mem_cons.1 hz with rfl | hz
          · exact ⟨Nat.le_refl _, by show i * 64 < (i + 1) * 64; omega⟩
          · have := gi.2 z hz; omega
end Go.Dn
/- A law's arguments, read as values; a law's row, out of a contract. -/
set_option linter.unusedVariables false
namespace Go.Dn
open Go.RowKit Go.ChangeShapes Go.WideShapes

/-! ### Structs that are compared -/
def namesB : List Field → Bool
  | [] => true
  | f :: fs => !(f.name == "_") && namesB fs
def eqTypeB (P : Program) (t : TypeId) : Bool :=
  (!P.eqGuardType P.depth t) && ((!P.stoodInHeld t) && (match P.underlying t with
    | some (.struct fs) => namesB fs.toList
    | _ => false))
def eqsB (P : Program) (E : Env) : Bool := E.eqs.all (eqTypeB P)
theorem eqFields_run {P : Program} (w : World) (xs ys : Array Value) (d : Nat) : ∀ (κ : K) (fs : List Field) (i : Nat) (us us' : List Value) (b : Bool), (TyR P κ).2 fs i → namesB fs = true → xs.toList.drop i = us → ys.toList.drop i = us' → K.eatW κ us → eqVals us us' = some b →
    (Op.eqFields (d + 1) xs ys fs).run P w = .ok b w
  | .unit, fs, i, us, us', b, hf, hn, hx, hy, hu, he => by
    have : fs = [] := hf
    subst this
    match us, hu with
    | [], _ =>
      match us', he with
      | [], he => cases he; rfl
  | .pair a κ, fs, i, us, us', b, hf, hn, hx, hy, hu, he => by
    obtain ⟨f, r, rfl, h1, h2, h3, h4⟩ := hf
    simp only [namesB, Bool.and_eq_true, Bool.not_eq_true', beq_eq_false_iff_ne] at hn
    have one : ∀ (u u' : Value) (c : Bool) (us1 us1' : List Value) (t : Bool), us = u :: us1 → us' = u' :: us1' → a.n = 1 → a.agg = false → (Op.equalIn (d + 1) f.type u u').run P w = .ok c w → K.eatW κ us1 → eqVals us1 us1' = some t → b = (c && t) →
        (Op.eqFields (d + 1) xs ys (f :: r)).run P w = .ok b w := fun u u' c us1 us1' t e1 e2 hn1 hag he1 hw ht hb => by
      have x1 : xs[i]? = some u := by
        have := congrArg (fun l => l[0]?) (hx.trans e1)
        simpa using this
      have y1 : ys[i]? = some u' := by
        have := congrArg (fun l => l[0]?) (hy.trans e2)
        simpa using this
      have x2 : xs.toList.drop (i + 1) = us1 := by
        have := congrArg (List.drop 1) (hx.trans e1)
        simpa [List.drop_drop, Nat.add_comm] using this
      have y2 : ys.toList.drop (i + 1) = us1' := by
        have := congrArg (List.drop 1) (hy.trans e2)
        simpa [List.drop_drop, Nat.add_comm] using this
      rw [hn1] at h4
      have ih := eqFields_run w xs ys d κ r (i + 1) us1 us1' t h4 hn.2 x2 y2 hw ht
      have px : (part f.type xs f.offset).run P w = .ok u w := by simp [part, run_isAgg' h3, hag, h1, x1]
      have py : (part f.type ys f.offset).run P w = .ok u' w := by simp [part, run_isAgg' h3, hag, h1, y1]
      simp only [Op.eqFields, ne_eq, hn.1, not_false_eq_true, if_true, Sem.run_bind, px, py, Result.andThen_ok, he1]
      cases c with
      | true => simp [ih, hb]
      | false => simp [hb]
    match us, hu with
    | [], hu => cases a <;> exact hu.elim
    | u :: us1, hu =>
      match us', he with
      | [], he => cases u <;> cases he
      | u' :: us1', he =>
        cases a <;> cases u <;> first | exact (hu : False).elim | skip
        case int.int k k1 n1 =>
          cases u' <;> first | (cases he; done) | skip
          rename_i k2 n2
          simp only [eqVals] at he
          split at he
          · rename_i e
            subst e
            cases ht : eqVals us1 us1' with
            | none => rw [ht] at he; cases he
            | some t =>
              rw [ht] at he
              exact one _ _ _ _ _ t rfl rfl rfl rfl (run_equalIn_int w d _ _ _ _ _ h3.1) hu ht (Option.some.inj he).symm
          · cases he
        case bool.bool b1 =>
          cases u' <;> first | (cases he; done) | skip
          simp only [eqVals] at he
          cases ht : eqVals us1 us1' with
          | none => rw [ht] at he; cases he
          | some t =>
            rw [ht] at he
            exact one _ _ _ _ _ t rfl rfl rfl rfl (run_equalIn_bool' w d _ _ _ h3.1) hu ht (Option.some.inj he).symm
        case str.string s1 =>
          cases u' <;> first | (cases he; done) | skip
          simp only [eqVals] at he
          cases ht : eqVals us1 us1' with
          | none => rw [ht] at he; cases he
          | some t =>
            rw [ht] at he
            refine one _ _ _ _ _ t rfl rfl rfl rfl (run_equalIn_string w d _ _ _ h3.1) hu ht ?_
            rw [← beq_toListBytes]; exact (Option.some.inj he).symm
  | .int _, fs, i, us, us', b, hf, _, _, _, _, _ => hf.elim
  | .bool, fs, i, us, us', b, hf, _, _, _, _, _ => hf.elim
  | .str, fs, i, us, us', b, hf, _, _, _, _, _ => hf.elim
  | .sl _, fs, i, us, us', b, hf, _, _, _, _, _ => hf.elim
theorem eqsB_spec {P : Program} {E : Env} (hE : TysOk P E) (h : eqsB P E = true) : EqsOk P E := fun t κ hm hk => by
  have ht := hE.1 t κ hk
  have := List.all_eq_true.1 h t ((memN_iff _ _).1 hm)
  simp only [eqTypeB, Bool.and_eq_true, Bool.not_eq_true'] at this
  obtain ⟨h1, h2, h3⟩ := this
  refine ⟨h1, fun us us' b w hu he => ?_⟩
  split at h3
  · rename_i fs hfs
    have hfo : P.fieldsOf t = fs := by simp [Program.fieldsOf, hfs]
    rw [run_equalIn_struct w 9999 t us us' (by rw [hfo]; exact hfs) h2, hfo]
    cases κ with
    | pair a k2 =>
      obtain ⟨fs', f, r, k1, _, e2, k3, k4, k5, k6⟩ := ht
      rw [hfs] at k1
      cases k1
      exact eqFields_run w us us' 9998 (.pair a k2) fs.toList 0 _ _ b ⟨f, r, e2, k3, k4, k5, by simpa using k6⟩ h3 (by simp) (by simp) hu he
    | unit => exact ht.elim
    | _ => exact (hu : False).elim
  · cases h3

/-! ### Arguments, read -/
/-- Numbers of their kinds. -/
def K.wf : (κ : K) → κ.T → Prop
  | .int k, n => (Lit.int k n).wf = true
  | .pair a b, x => a.wf x.1 ∧ b.wf x.2
  | .sl e, l => ∀ y ∈ l, e.wf y
  | _, _ => True
/-- How much it holds. -/
def K.big : (κ : K) → κ.T → Nat
  | .str, s => s.size
  | .pair a b, x => a.big x.1 + b.big x.2
  | .sl e, l => (l.map fun y => e.big y + 1).sum
  | _, _ => 0
structure BulkOk {H : Type} (bulk : DataW H → Nat) (all : List (DataW H) → Nat) : Prop where
  int : ∀ k n, bulk (.lit (.int k n)) = 1
  bool : ∀ b, bulk (.lit (.bool b)) = 1
  str : ∀ b, bulk (.lit (.string b)) = b.length + 1
  nil : bulk .nil = 1
  slice : ∀ e s, bulk (.slice e s) = all e + all s + 1
  agg : ∀ p, bulk (.agg p) = all p + 1
  anil : all [] = 0
  acons : ∀ d r, all (d :: r) = bulk d + all r

section
variable {H0 : Type} {enc : TypeId × Value → H0} {P : Program} {w : World} {base : Nat} {spare : Nat → Bool} {held : Bool} {Z : CS} {bulk : DataW H0 → Nat} {all : List (DataW H0) → Nat}
theorem cells_n {κ : K} {t : TypeId} (h : TyOk P κ t) : P.cellsOf t = κ.n := by
  obtain ⟨i, h1, h2, _⟩ := h.info
  simp [Program.cellsOf, h1, h2]
theorem cell_spot {a : Addr} {v : Value} (h : w.cell? a = some v) : a.spot = none := by
  unfold World.cell? at h
  split at h
  · split at h
    · cases h
    · rename_i hs
      cases e : a.spot with
      | none => rfl
      | some s => rw [e] at hs; simp at hs
  · cases h
/-- What reads as a row of elements, from element i on. -/
theorem open_row (hZ : ∀ b j v, w.cell? ⟨b, j, none⟩ = some v → Z b j) {e : K} (a0 : Addr) (D : Nat → DataW H0) (hbulk : BulkOk bulk all) :
    ∀ (n i : Nat), (∀ j, j < n → ∃ (cs : List Value) (y : e.T), w.cells? base (a0.add ((i + j) * e.n)) e.n = some cs ∧ H Z w .rd e y cs CS.no ∧ e.wf y ∧ e.big y + 1 ≤ bulk (D (i + j))) →
      ∃ (ys : List e.T) (cs : List Value), ys.length = n ∧ HL (H Z w .rd e) ys cs CS.no ∧ cs.length = n * e.n ∧ (∀ (j : Nat) u, cs[j]? = some u → w.cell? (a0.add (i * e.n + j)) = some u) ∧ (∀ y ∈ ys, e.wf y) ∧ (ys.map fun y => e.big y + 1).sum ≤ all ((List.range' i n).map D)
  | 0, i, _ => ⟨[], [], rfl, rfl, by simp, fun j u h => (by simp at h), fun y h => (by cases h), by simp⟩
  | n + 1, i, h => by
    obtain ⟨cs, y, h1, h2, h3, h4⟩ := h 0 (by omega)
    obtain ⟨ys, cs', k1, k2, k3, k4, k5, k6⟩ := open_row hZ a0 D hbulk n (i + 1) fun j hj => by
      have := h (j + 1) (by omega)
      rwa [show i + (j + 1) = i + 1 + j by omega] at this
    obtain ⟨_, hl, hc⟩ := World.cells?_some h1
    refine ⟨y :: ys, cs ++ cs', by simp [k1], ⟨cs, cs', CS.no, CS.no, rfl, h2, k2, Sep.none _⟩, by simp [hl, k3, Nat.add_mul]; omega, fun j u hj => ?_, fun z hz => ?_, ?_⟩
    · by_cases hlt : j < e.n
      · rw [List.getElem?_append_left (by omega)] at hj
        have := hc j hlt
        rw [hj] at this
        rw [Nat.add_zero] at this
        rwa [Deep.add_add] at this
      · rw [List.getElem?_append_right (by omega), hl] at hj
        have := k4 (j - e.n) u hj
        rwa [show (i + 1) * e.n + (j - e.n) = i * e.n + j by rw [Nat.add_mul]; omega] at this
    · rcases List.mem_cons.1 hz with rfl | hz
      · exact h3
      · exact k5 z hz
    · rw [List.map_cons, List.sum_cons, List.range'_succ, List.map_cons, hbulk.acons]
      simp only [Nat.add_zero] at h4
      omega
theorem open_kind (hZ : ∀ b j v, w.cell? ⟨b, j, none⟩ = some v → Z b j) (hbulk : BulkOk bulk all) : ∀ (κ : K),
    (∀ t fuel cs x, TyOk P κ t → DataW.trod enc P w base spare held fuel t cs = some x → ∃ y : κ.T, H Z w .rd κ y cs CS.no ∧ κ.wf y ∧ κ.big y + 1 ≤ bulk x.1) ∧
    (∀ (fs : List Field) (off n : Nat) (cs : List Value) (xs : List (DataW H0 × List MemPlace)), (TyR P κ).2 fs off → xs.length = fs.length → (∀ (i : Nat) (f : Field), fs[i]? = some f → DataW.trod enc P w base spare held n f.type ((cs.drop f.offset).take (P.cellsOf f.type)) = xs[i]?) →
      ∃ y : κ.T, H Z w .rd κ y ((cs.drop off).take κ.n) CS.no ∧ κ.wf y ∧ κ.big y ≤ all (xs.map (·.1)))
  | .int k => ⟨fun t fuel cs x ht h => by
      obtain ⟨n, rfl, rfl, hw⟩ := DataW.trod_int ht.1 h
      exact ⟨n, by simp [H], hw, by show 0 + 1 ≤ bulk (.lit (.int k n)); rw [hbulk.int]; exact Nat.le_refl _⟩, fun _ _ _ _ _ h => h.elim⟩
  | .bool => ⟨fun t fuel cs x ht h => by
      obtain ⟨b, rfl, rfl⟩ := DataW.trod_bool ht.1 h
      exact ⟨b, by simp [H], trivial, by show 0 + 1 ≤ bulk (.lit (.bool b)); rw [hbulk.bool]; exact Nat.le_refl _⟩, fun _ _ _ _ _ h => h.elim⟩
  | .str => ⟨fun t fuel cs x ht h => by
      obtain ⟨s, rfl, rfl, hs⟩ := DataW.trod_string ht.1 h
      exact ⟨s, by simp [H], trivial, by show s.size + 1 ≤ bulk (.lit (.string s.data.toList)); rw [hbulk.str]; simp⟩, fun _ _ _ _ _ h => h.elim⟩
  | .unit => ⟨fun _ _ _ _ h => h.elim, fun fs off n cs xs hf hl h => ⟨(), by simp [H, K.n], trivial, Nat.zero_le _⟩⟩
  | .pair a b => by
    have two : ∀ (fs : List Field) (off n : Nat) (cs : List Value) (xs : List (DataW H0 × List MemPlace)), (TyR P (.pair a b)).2 fs off → xs.length = fs.length → (∀ (i : Nat) (f : Field), fs[i]? = some f → DataW.trod enc P w base spare held n f.type ((cs.drop f.offset).take (P.cellsOf f.type)) = xs[i]?) →
        ∃ y : (K.pair a b).T, H Z w .rd (.pair a b) y ((cs.drop off).take (K.pair a b).n) CS.no ∧ (K.pair a b).wf y ∧ (K.pair a b).big y ≤ all (xs.map (·.1)) := fun fs off n cs xs hf hl h => by
      obtain ⟨f, r, rfl, h1, h2, h3, h4⟩ := hf
      match xs, hl with
      | x :: xs, hl =>
        have h0 := h 0 f rfl
        rw [cells_n h3, h1] at h0
        obtain ⟨y1, k1, k2, k3⟩ := (open_kind hZ hbulk a).1 _ _ _ _ h3 h0
        obtain ⟨y2, k4, k5, k6⟩ := (open_kind hZ hbulk b).2 r (off + a.n) n cs xs h4 (by simpa using hl) fun i f' hi => by
          have := h (i + 1) f' (by simpa using hi)
          simpa using this
        refine ⟨(y1, y2), ⟨_, _, CS.no, CS.no, ?_, k1, k4, Sep.none _⟩, ⟨k2, k5⟩, ?_⟩
        · simp only [K.n]
          rw [List.take_add, List.drop_drop]
        · rw [List.map_cons, hbulk.acons]
          simp only [K.big]
          omega
    refine ⟨fun t fuel cs x ht h => ?_, two⟩
    obtain ⟨fs, f, r, h1, hinfo, h2, h3, h4, h5, h6⟩ := ht
    have hcell : P.cellsOf t = a.n + b.n := by
      obtain ⟨i, k1, k2, _⟩ := hinfo
      simp [Program.cellsOf, k1, k2]
    obtain ⟨xs, n, rfl, rfl, hl, hxl, hx⟩ := DataW.trod_struct h1 h
    obtain ⟨y, k1, k2, k3⟩ := two fs.toList 0 n cs xs ⟨f, r, h2, h3, h4, h5, by simpa using h6⟩ (by simpa using hxl) fun i f' hi => hx i f' (by simpa using hi)
    refine ⟨y, ?_, k2, by show _ ≤ bulk (.agg (xs.map (·.1))); rw [hbulk.agg]; omega⟩
    rw [List.drop_zero, List.take_of_length_le (by rw [hl, hcell]; exact Nat.le_refl _)] at k1
    exact k1
  | .sl e => ⟨fun t fuel cs x ht h => by
      obtain ⟨t', h1, h2, h3⟩ := TyOk.slice ht
      have hc := cells_n h3
      rcases Deep.open_slice h1 h with ⟨rfl, rfl⟩ | ⟨a0, len, cap, m, n, D, Pl, rfl, hb, hl, hm, hmm, rfl, hx⟩
      · exact ⟨[], ⟨none, 0, rfl, Nat.le_refl _, fun h => absurd h (Nat.lt_irrefl _)⟩, fun y h => (by cases h), by show 0 + 1 ≤ bulk .nil; rw [hbulk.nil]; exact Nat.le_refl _⟩
      · have hlm : len ≤ m := by rw [hmm]; split <;> omega
        obtain ⟨ys, cs, k1, k2, k3, k4, k5, k6⟩ := open_row (base := base) hZ a0 D hbulk (e := e) len 0 fun j hj => by
          obtain ⟨cs', q1, q2⟩ := hx j (by omega)
          obtain ⟨y, q3, q4, q5⟩ := (open_kind hZ hbulk e).1 _ _ _ _ h3 q2
          rw [hc] at q1
          exact ⟨cs', y, by simpa using q1, q3, q4, by simpa using q5⟩
        refine ⟨ys, ⟨some a0, cap, by rw [k1], by omega, fun hp => ?_⟩, k5, ?_⟩
        · have hlen : 0 < cs.length := by rw [k3]; exact Nat.mul_pos (by omega) h2
          obtain ⟨u, hu⟩ : ∃ u, cs[0]? = some u := ⟨cs[0], by simp [hlen]⟩
          have hsp : a0.spot = none := by
            have := cell_spot (k4 0 u hu)
            unfold Addr.add at this
            split at this
            · exact this
            · rename_i hne; simp at hne
          obtain ⟨g, off, sp⟩ := a0
          simp only at hsp
          subst hsp
          refine ⟨g, off, cs, rfl, k2, fun j u hj => ?_⟩
          have := k4 j u hj
          rw [addr_add, Nat.zero_mul, Nat.zero_add] at this
          exact ⟨hZ _ _ _ this, this⟩
        · show (ys.map fun y => e.big y + 1).sum + 1 ≤ bulk (.slice _ _)
          rw [hbulk.slice]
          rw [List.range_eq_range']
          omega, fun _ _ _ _ _ h => h.elim⟩
/-- All old memory. -/
def Old (w : World) : CS := fun b _ => b < w.heap.size
theorem Old.cell {w : World} {b j : Nat} {v : Value} (h : w.cell? ⟨b, j, none⟩ = some v) : Old w b j := by
  obtain ⟨_, _, _, hb, _⟩ := heap_of_cell? h
  exact lt_of_heap hb
theorem open_arg {r : Reach} {b0 : Nat} (hbulk : BulkOk bulk all) {κ : K} {t : TypeId} (ht : TyOk P κ t) {v : Value} {d : DataW H0} {p : List MemPlace} (hv : Value.okWide P w r b0 t v) (h : DataW.Trod enc P w base spare held t v d p) :
    ∃ (y : κ.T) (us : List Value), pk κ us v ∧ H (Old w) w .rd κ y us CS.no ∧ κ.wf y ∧ κ.big y + 1 ≤ bulk d := by
  obtain ⟨fuel, hf⟩ := h
  obtain ⟨y, h1, h2, h3⟩ := (open_kind (fun b j v hc => Old.cell hc) hbulk κ).1 t fuel _ _ ht hf
  refine ⟨y, v.cells.toList, ?_, h1, h2, h3⟩
  unfold pk
  cases hk : κ.agg with
  | true =>
    cases κ with
    | pair a b =>
      obtain ⟨fs, f, _, k1, _⟩ := ht
      obtain ⟨cs, rfl, _⟩ := okWide_struct k1 hv
      simp [Value.cells]
    | unit => exact ht.elim
    | _ => cases hk
  | false =>
    have hn := agg_cells hk
    have hl := H.len _ _ _ _ _ h1
    rw [hn] at hl
    simp only [Bool.false_eq_true, if_false]
    have h1' := H.one _ _ _ _ _ h1
    cases v with
    | agg cs =>
      cases κ with
      | int k => obtain ⟨n, hn⟩ := okWide_int ht.1 hv; cases hn
      | bool => obtain ⟨n, hn⟩ := okWide_bool ht.1 hv; cases hn
      | str => obtain ⟨n, hn⟩ := okWide_string ht.1 hv; cases hn
      | sl e => obtain ⟨t', h2, _⟩ := TyOk.slice ht; obtain ⟨_, _, _, hn⟩ := okWide_slice h2 hv; cases hn
      | unit => cases hk
      | pair a b => cases hk
    | tuple cs =>
      cases κ with
      | int k => obtain ⟨n, hn⟩ := okWide_int ht.1 hv; cases hn
      | bool => obtain ⟨n, hn⟩ := okWide_bool ht.1 hv; cases hn
      | str => obtain ⟨n, hn⟩ := okWide_string ht.1 hv; cases hn
      | sl e => obtain ⟨t', h2, _⟩ := TyOk.slice ht; obtain ⟨_, _, _, hn⟩ := okWide_slice h2 hv; cases hn
      | unit => cases hk
      | pair a b => cases hk
    | _ => rfl
theorem BulkOk.le {bulk : DataW H0 → Nat} {all : List (DataW H0) → Nat} (h : BulkOk bulk all) : ∀ (l : List (DataW H0)) (d : DataW H0), d ∈ l → bulk d ≤ all l
  | x :: l, d, hd => by
    rw [h.acons]
    rcases List.mem_cons.1 hd with rfl | hd
    · exact Nat.le_add_right _ _
    · exact Nat.le_trans (h.le l d hd) (Nat.le_add_left _ _)
theorem Agr.below {w w' : World} (h : Agr CS.no w w') : Below w.heap.size w w' := ⟨h.os, h.tape, h.output, h.size, fun _ hk => h.whole hk⟩
end

/-! ### Functions, one after another -/
def FnsL (P : Program) (k : Nat) : List (Nat × FEnt) → Prop
  | [] => True
  | x :: r => Contract P x.1 x.2.sg (x.2.F k) ∧ FnsL P k r
theorem FnsL.get {P : Program} {k : Nat} : ∀ {l : List (Nat × FEnt)}, FnsL P k l → ∀ f ent, findO l f = some ent → Contract P f ent.sg (ent.F k)
  | (j, x) :: r, h, f, ent, hf => by
    simp only [findO] at hf
    cases e : Nat.beq j f with
    | true =>
      rw [e] at hf
      cases hf
      have := Nat.eq_of_beq_eq_true e
      subst this
      exact h.1
    | false =>
      rw [e] at hf
      exact FnsL.get h.2 f ent hf
theorem ok_of {P : Program} {E : Env} {k : Nat} (hT : TysOk P E) (hQ : EqsOk P E) (hN : FnsL P k E.fns) {f : FuncId} {fn : Func} (hf : P.funcs[f]? = some fn) (hb : fn.body.isSome = true) (hname : (fn.name == "runtime.NumGoroutine") = false) {sg : Sig} {hd : Hints} {ls : List (Nat × Lp sg.Out)} (hl : LoopsOk E k hd ls (loopsOf (fn.body.getD .skip)))
    {F : Sig.In sg.ps → Option sg.Out} (hF : ∀ x, denFn E k fn sg hd (runL k hd ls) x = F x) : Contract P f sg F := by
  cases hbd : fn.body with
  | none => rw [hbd] at hb; cases hb
  | some c =>
    rw [hbd] at hl
    exact contract_of ⟨hT, hQ, hN.get⟩ hf hbd hname hl hF
/-- What a law's contract says of a call. -/
theorem law_of {P : Program} {f : FuncId} {ps : List PM} {q : Q} {F : Sig.In ps → Option (Sig.Out ⟨ps, [(.bool, q)]⟩)} (hC : Contract P f ⟨ps, [(.bool, q)]⟩ F) {x : Sig.In ps} {y : Sig.OutP ps} (hx : F x = some ((true, ()), y)) {w : World} {vs : List Value} (hA : ArgsR P (Old w) CS.no w ps x vs CS.no) :
    Calls P f vs.toArray w fun e w' => e = .returned (.bool true) ∧ Below w.heap.size w w' := by
  obtain ⟨fn, _, _, _, h⟩ := hC
  refine (h x _ hx w (Old w) CS.no vs (fun b j hb => hb) (fun _ _ t => t.elim) (CS.no_apart _) hA).mono fun e w' ⟨v, rv, Z', T1, T2, he, hE⟩ => ?_
  obtain ⟨v', us, r, T3, T4, e1, hp, hh, hr, _⟩ := hE.res
  simp only [ResR] at hr
  subst hr
  refine ⟨?_, hE.agr.below⟩
  rw [he, hE.v, e1]
  have : us = [.bool true] := by cases q <;> simpa only [H] using hh
  subst this
  have : [Value.bool true] = [v'] := hp
  rw [show v' = .bool true from (List.cons.inj this).1.symm]
  rfl
end Go.Dn
/- Plain lemmas about what the generated functions are made of. -/
set_option linter.unusedVariables false
namespace Go.Dn

theorem share_eq {β ρ : Type} (a : β) (k : β → Option ρ) : Go.Dn.share a k = k a := rfl
theorem w64 {n : Int} (h1 : -9223372036854775808 ≤ n) (h2 : n ≤ 9223372036854775807) : IntKind.wrap .i64 n = n := IntWalk.i64_in n ⟨h1, h2⟩
theorem w8 {n : Int} (h1 : 0 ≤ n) (h2 : n ≤ 255) : IntKind.wrap .u8 n = n := IntWalk.u8_in n ⟨h1, h2⟩
theorem w8_mod (n : Int) : IntKind.wrap .u8 n = n % 256 := by rw [IntKind.wrap_u8]
theorem w8_wf (n : Int) : 0 ≤ IntKind.wrap .u8 n ∧ IntKind.wrap .u8 n ≤ 255 := by rw [w8_mod]; omega
theorem wu64 {n : Int} (h1 : 0 ≤ n) (h2 : n ≤ 18446744073709551615) : IntKind.wrap .u64 n = n := by
  simp [IntKind.wrap, IntKind.bits, IntKind.signed]; omega
theorem inB_eq {i : Int} {n : Nat} (h1 : 0 ≤ i) (h2 : i < n) : inB i n = true := by simp [inB, h1, h2]
theorem inBn {i n : Nat} (h : i < n) : inB (i : Int) (n : Int) = true := by simp [inB, h]
theorem roomy_ok {n b : Nat} (h : n * b ≤ 140737488355328) : roomy n b = true := Nat.ble_eq_true_of_le h
theorem roomy_le {n b : Nat} (N : Nat) (h : n ≤ N) (hN : N * b ≤ 140737488355328) : roomy n b = true := roomy_ok (Nat.le_trans (Nat.mul_le_mul_right b h) hN)
theorem lit_i64 {n : Int} (h : (Lit.int .i64 n).wf = true) : -9223372036854775808 ≤ n ∧ n ≤ 9223372036854775807 := by
  simpa [Lit.wf, IntKind.min, IntKind.max, IntKind.signed, IntKind.bits] using h
theorem lit_u8 {n : Int} (h : (Lit.int .u8 n).wf = true) : 0 ≤ n ∧ n ≤ 255 := by
  simpa [Lit.wf, IntKind.min, IntKind.max, IntKind.signed, IntKind.bits] using h

/-! ### Loops -/
/-- A loop that counts up, with an invariant. -/
theorem loop_up {σ ρ : Type} {len : Nat} (L : Nat → Int → σ → Option ρ) (P : Nat → σ → Prop) (R : Nat → σ → Option ρ)
    (hend : ∀ n s, P len s → L (n + 1) (len : Int) s = R len s)
    (hstep : ∀ n i s, i < len → P i s → L (n + 1) (i : Int) s = R i s ∨ ∃ s', L (n + 1) (i : Int) s = L n ((i + 1 : Nat) : Int) s' ∧ P (i + 1) s' ∧ R i s = R (i + 1) s') :
    ∀ n i s, i ≤ len → P i s → len - i < n → L n (i : Int) s = R i s := by
  intro n
  induction n with
  | zero => intro i s _ _ h; omega
  | succ n ih =>
    intro i s hi hP hn
    by_cases e : i = len
    · subst e; exact hend n s hP
    · rcases hstep n i s (by omega) hP with h | ⟨s', h1, h2, h3⟩
      · exact h
      · rw [h1, h3]; exact ih (i + 1) s' (by omega) h2 (by omega)
/-- The same, to one end. -/
theorem loop_inv {σ ρ : Type} {len : Nat} (L : Nat → Int → σ → Option ρ) (P : Nat → σ → Prop) (E : Option ρ)
    (hend : ∀ n s, P len s → L (n + 1) (len : Int) s = E)
    (hstep : ∀ n i s, i < len → P i s → ∃ s', L (n + 1) (i : Int) s = L n ((i + 1 : Nat) : Int) s' ∧ P (i + 1) s') :
    ∀ n i s, i ≤ len → P i s → len - i < n → L n (i : Int) s = E :=
  loop_up L P (fun _ _ => E) hend fun n i s hi hP => by
    obtain ⟨s', h1, h2⟩ := hstep n i s hi hP
    exact .inr ⟨s', h1, h2, rfl⟩
theorem next_i {i : Nat} (h : i < 4611686018427387904) : IntKind.wrap .i64 ((i : Int) + 1) = ((i + 1 : Nat) : Int) := by
  rw [w64 (by omega) (by omega)]; omega
theorem lt_dec {i n : Nat} (h : i < n) : decide ((i : Int) < (n : Int)) = true := decide_eq_true (by omega)
theorem lt_dec_f (n : Nat) : decide ((n : Int) < (n : Int)) = false := decide_eq_false (by omega)
theorem ge_dec {i n : Nat} (h : ¬ i < n) : decide ((i : Int) < (n : Int)) = false := decide_eq_false (by omega)

/-! ### Sizes -/
theorem big_mem {e : K} : ∀ {l : List e.T} {y : e.T}, y ∈ l → e.big y + 1 ≤ K.big (.sl e) l
  | x :: l, y, h => by
    simp only [K.big, List.map_cons, List.sum_cons]
    rcases List.mem_cons.1 h with rfl | h
    · omega
    · have := big_mem h
      simp only [K.big] at this
      omega
theorem big_len {e : K} : ∀ (l : List e.T), l.length ≤ K.big (.sl e) l
  | [] => Nat.zero_le _
  | x :: l => by
    have := big_len l
    simp only [K.big, List.map_cons, List.sum_cons, List.length_cons] at this ⊢
    omega
theorem big_int (k : IntKind) (l : List Int) : K.big (.sl (.int k)) l = l.length := by
  induction l with
  | nil => rfl
  | cons x l ih => simp only [K.big, List.map_cons, List.sum_cons, List.length_cons] at ih ⊢; omega
theorem getD_get {α : Type} {l : List α} {i : Nat} (d : α) (h : i < l.length) : l.getD (Int.toNat (i : Int)) d = l[i] := by
  simp [List.getD, h]
theorem set_keep {α : Type} {l ys : List α} {i : Nat} {v : α} (hl : l.length = ys.length) (hi : i < ys.length) (hp : ∀ j, j < i → l[j]? = ys[j]?) (hv : ys[i]? = some v) : (l.set i v).length = ys.length ∧ ∀ j, j < i + 1 → (l.set i v)[j]? = ys[j]? := by
  refine ⟨by simpa using hl, fun j hj => ?_⟩
  by_cases e : j = i
  · subst e; rw [List.getElem?_set_self (by omega), hv]
  · rw [List.getElem?_set_ne (fun h => e h.symm)]; exact hp j (by omega)
theorem all_eq {α : Type} {l ys : List α} (hl : l.length = ys.length) (h : ∀ j, j < ys.length → l[j]? = ys[j]?) : l = ys := by
  refine List.ext_getElem? fun j => ?_
  by_cases hj : j < ys.length
  · exact h j hj
  · rw [List.getElem?_eq_none (by omega), List.getElem?_eq_none (by omega)]
theorem bigp (a b : K) (x : (K.pair a b).T) : (K.pair a b).big x = a.big x.1 + b.big x.2 := rfl
theorem bigi (k : IntKind) (x : Int) : (K.int k).big x = 0 := rfl
theorem bigb (x : Bool) : K.bool.big x = 0 := rfl
theorem bigu (x : Unit) : K.unit.big x = 0 := rfl
theorem bigs (x : ByteArray) : K.str.big x = x.size := rfl
/-- No string, no slice in it. -/
def K.plainB : K → Bool
  | .int _ => true
  | .bool => true
  | .unit => true
  | .pair a b => a.plainB && b.plainB
  | _ => false
theorem plain_big : ∀ (κ : K) (x : κ.T), κ.plainB = true → κ.big x = 0
  | .int _, _, _ => rfl
  | .bool, _, _ => rfl
  | .unit, _, _ => rfl
  | .pair a b, x, h => by
    simp only [K.plainB, Bool.and_eq_true] at h
    simp only [K.big, plain_big a x.1 h.1, plain_big b x.2 h.2]
  | .str, _, h => by cases h
  | .sl _, _, h => by cases h
theorem flat_big {e : K} (h : e.plainB = true) (l : List e.T) : K.big (.sl e) l = l.length := by
  induction l with
  | nil => rfl
  | cons x l ih => simp only [K.big, List.map_cons, List.sum_cons, List.length_cons, plain_big e x h] at ih ⊢; omega
/-- Numbers from k on. -/
def upto (f : Int → Int) (k : Int) : Nat → List Int
  | 0 => []
  | n + 1 => f k :: upto f (k + 1) n
theorem upto_len (f : Int → Int) : ∀ (n : Nat) (k : Int), (upto f k n).length = n
  | 0, _ => rfl
  | n + 1, k => by simp [upto, upto_len f n]
theorem upto_get (f : Int → Int) : ∀ (n : Nat) (k : Int) (i : Nat), i < n → (upto f k n)[i]? = some (f (k + i))
  | 0, _, i, h => by omega
  | n + 1, k, 0, h => by simp [upto]
  | n + 1, k, i + 1, h => by
    simp only [upto, List.getElem?_cons_succ]
    rw [upto_get f n (k + 1) i (by omega)]
    congr 2
    omega
theorem next_k {k : Int} {i : Nat} (h0 : 0 ≤ k) (h : k ≤ 1152921504606846976) (hi : i ≤ 1152921504606846976) : IntKind.wrap .i64 (k + (i : Int) + 1) = k + ((i + 1 : Nat) : Int) := by
  rw [w64 (by omega) (by omega)]; omega
end Go.Dn
set_option linter.unusedVariables false
set_option maxRecDepth 100000
namespace Go.Proofs.Ytopldlbnnnmpbaa
open Go Go.Dn
def kerrorAddressString : K := (.pair .str (.pair (.int .u64) .unit))
def kPrefix : K := (.pair (.int .i64) (.pair (.int .i64) .unit))
def kBytesResult : K := (.pair (.int .i64) (.pair (.sl (.int .u8)) .unit))
def kboundsError : K := (.pair (.int .i64) (.pair (.int .i64) (.pair .bool (.pair (.int .u8) .unit))))
def kAttrs : K := (.pair (.int .i64) (.pair (.sl (.int .i64)) (.pair (.int .i64) kPrefix)))
def kUpdate : K := (.pair (.sl kPrefix) (.pair .bool (.pair kAttrs (.pair (.sl kPrefix) .unit))))
def kMessage : K := (.pair (.int .i64) (.pair (.int .i64) (.pair (.int .i64) (.pair (.int .i64) (.pair (.int .i64) (.pair (.int .i64) (.pair kUpdate .unit)))))))
def tys : List (Nat × K) := [(2, (.int .i64)), (3, (.int .i64)), (4, .bool), (5, (.int .u8)), (6, (.int .u8)), (7, kboundsError), (8, kboundsError), (9, .str), (10, .str), (11, .str), (12, (.int .u64)), (13, kerrorAddressString), (14, kerrorAddressString), (21, (.int .i32)), (22, (.sl kPrefix)), (23, (.sl (.int .i64))), (24, kAttrs), (25, kAttrs), (26, kUpdate), (27, kUpdate), (28, kMessage), (29, kMessage), (31, (.sl (.int .u8))), (32, kBytesResult), (33, kBytesResult), (35, (.sl kPrefix)), (36, kAttrs), (37, kUpdate), (38, kUpdate), (39, kMessage), (40, kMessage), (60, kBytesResult), (61, kBytesResult), (75, kPrefix), (76, kPrefix), (78, kPrefix), (90, (.int .u64)), (96, (.sl (.sl kPrefix))), (108, (.int .u32)), (109, (.int .u8)), (110, (.int .u8)), (113, (.int .i32)), (114, (.int .i32))]
def bys : List (Nat × Nat) := [(22, 16), (23, 8), (31, 1), (35, 16), (96, 24)]
def eqs : List Nat := [76, 78]
theorem tysOk0 : TysOk Try.prog ⟨tys, bys, [], []⟩ := tysB_spec (by kernel_rfl)
theorem tysOk (fns : List (Nat × FEnt)) (es : List Nat) : TysOk Try.prog ⟨tys, bys, fns, es⟩ := tysOk0
theorem eqsOk0 : EqsOk Try.prog ⟨tys, bys, [], eqs⟩ := eqsB_spec tysOk0 (by kernel_rfl)
theorem eqsOk (fns : List (Nat × FEnt)) : EqsOk Try.prog ⟨tys, bys, fns, eqs⟩ := eqsOk0
def laws_szPrefixS.sg : Sig := ⟨[.b (.sl kPrefix), .b (.int .i64)], [((.int .i64), .rd)]⟩
def laws_szPrefixS.E : Env := ⟨tys, bys, [], eqs⟩
def laws_szPrefixS.F (k : Nat) (x : ((List (Int × (Int × Unit))) × (Int × Unit))) : Option ((Int × Unit) × Unit) :=
  bif (decide (((IntKind.wrap .i64 (x.2.1 - (((List.length x.1) : Nat) : Int))) < (0 : Int)))) then
  (some (((-(1 : Int)), ()), ()))
  else some (((IntKind.wrap .i64 (x.2.1 - (((List.length x.1) : Nat) : Int))), ()), ())
def laws_szPrefixS.hd : Hints := ⟨[], [], [4], [0, 1], []⟩
def laws_szPrefixS.lps (k : Nat) : List (Nat × Lp laws_szPrefixS.sg.Out) := []
theorem laws_szPrefixS.loops (k : Nat) : LoopsOk laws_szPrefixS.E k laws_szPrefixS.hd (laws_szPrefixS.lps k) (loopsOf (Go.Proofs.Try.f22.body.getD .skip)) := trivial
theorem laws_szPrefixS.den (k : Nat) (x : Sig.In laws_szPrefixS.sg.ps) : denFn laws_szPrefixS.E k Go.Proofs.Try.f22 laws_szPrefixS.sg laws_szPrefixS.hd (runL k laws_szPrefixS.hd (laws_szPrefixS.lps k)) x = laws_szPrefixS.F k x := by kernel_rfl
theorem laws_szPrefixS.ok (k : Nat) : Contract Try.prog 22 laws_szPrefixS.sg (laws_szPrefixS.F k) := ok_of (E := laws_szPrefixS.E) (tysOk _ _) (eqsOk _) trivial Try.func22 rfl (by kernel_rfl) (laws_szPrefixS.loops k) (laws_szPrefixS.den k)
def laws_szInt64S.sg : Sig := ⟨[.b (.sl (.int .i64)), .b (.int .i64)], [((.int .i64), .rd)]⟩
def laws_szInt64S.E : Env := ⟨tys, bys, [], eqs⟩
def laws_szInt64S.F (k : Nat) (x : ((List Int) × (Int × Unit))) : Option ((Int × Unit) × Unit) :=
  bif (decide (((IntKind.wrap .i64 (x.2.1 - (((List.length x.1) : Nat) : Int))) < (0 : Int)))) then
  (some (((-(1 : Int)), ()), ()))
  else some (((IntKind.wrap .i64 (x.2.1 - (((List.length x.1) : Nat) : Int))), ()), ())
def laws_szInt64S.hd : Hints := ⟨[], [], [4], [0, 1], []⟩
def laws_szInt64S.lps (k : Nat) : List (Nat × Lp laws_szInt64S.sg.Out) := []
theorem laws_szInt64S.loops (k : Nat) : LoopsOk laws_szInt64S.E k laws_szInt64S.hd (laws_szInt64S.lps k) (loopsOf (Go.Proofs.Try.f35.body.getD .skip)) := trivial
theorem laws_szInt64S.den (k : Nat) (x : Sig.In laws_szInt64S.sg.ps) : denFn laws_szInt64S.E k Go.Proofs.Try.f35 laws_szInt64S.sg laws_szInt64S.hd (runL k laws_szInt64S.hd (laws_szInt64S.lps k)) x = laws_szInt64S.F k x := by kernel_rfl
theorem laws_szInt64S.ok (k : Nat) : Contract Try.prog 35 laws_szInt64S.sg (laws_szInt64S.F k) := ok_of (E := laws_szInt64S.E) (tysOk _ _) (eqsOk _) trivial Try.func35 rfl (by kernel_rfl) (laws_szInt64S.loops k) (laws_szInt64S.den k)
def laws_szAttrs.sg : Sig := ⟨[.b kAttrs, .b (.int .i64)], [((.int .i64), .rd)]⟩
def laws_szAttrs.E : Env := ⟨tys, bys, [(35, ⟨laws_szInt64S.sg, laws_szInt64S.F⟩)], eqs⟩
def laws_szAttrs.F (k : Nat) (x : ((Int × ((List Int) × (Int × (Int × (Int × Unit))))) × (Int × Unit))) : Option ((Int × Unit) × Unit) :=
  (laws_szInt64S.F k (x.1.2.1, x.2)).bind fun y0 =>
  bif (decide ((y0.1.1 < (0 : Int)))) then
  (some (((-(1 : Int)), ()), ()))
  else some y0
def laws_szAttrs.hd : Hints := ⟨[], [], [4], [0, 1, 2], []⟩
def laws_szAttrs.lps (k : Nat) : List (Nat × Lp laws_szAttrs.sg.Out) := []
theorem laws_szAttrs.loops (k : Nat) : LoopsOk laws_szAttrs.E k laws_szAttrs.hd (laws_szAttrs.lps k) (loopsOf (Go.Proofs.Try.f23.body.getD .skip)) := trivial
theorem laws_szAttrs.den (k : Nat) (x : Sig.In laws_szAttrs.sg.ps) : denFn laws_szAttrs.E k Go.Proofs.Try.f23 laws_szAttrs.sg laws_szAttrs.hd (runL k laws_szAttrs.hd (laws_szAttrs.lps k)) x = laws_szAttrs.F k x := by kernel_rfl
theorem laws_szAttrs.ok (k : Nat) : Contract Try.prog 23 laws_szAttrs.sg (laws_szAttrs.F k) := ok_of (E := laws_szAttrs.E) (tysOk _ _) (eqsOk _) ⟨laws_szInt64S.ok k, trivial⟩ Try.func23 rfl (by kernel_rfl) (laws_szAttrs.loops k) (laws_szAttrs.den k)
def laws_szUpdate.sg : Sig := ⟨[.b kUpdate, .b (.int .i64)], [((.int .i64), .rd)]⟩
def laws_szUpdate.E : Env := ⟨tys, bys, [(22, ⟨laws_szPrefixS.sg, laws_szPrefixS.F⟩), (23, ⟨laws_szAttrs.sg, laws_szAttrs.F⟩)], eqs⟩
def laws_szUpdate.F (k : Nat) (x : (((List (Int × (Int × Unit))) × (Bool × ((Int × ((List Int) × (Int × (Int × (Int × Unit))))) × ((List (Int × (Int × Unit))) × Unit)))) × (Int × Unit))) : Option ((Int × Unit) × Unit) :=
  (laws_szPrefixS.F k (x.1.1, x.2)).bind fun y0 =>
  bif (decide ((y0.1.1 < (0 : Int)))) then
  (some (((-(1 : Int)), ()), ()))
  else (laws_szAttrs.F k (x.1.2.2.1, y0.1)).bind fun y1 =>
    bif (decide ((y1.1.1 < (0 : Int)))) then
    (some (((-(1 : Int)), ()), ()))
    else (laws_szPrefixS.F k (x.1.2.2.2.1, y1.1)).bind fun y2 =>
      bif (decide ((y2.1.1 < (0 : Int)))) then
      (some (((-(1 : Int)), ()), ()))
      else some y2
def laws_szUpdate.hd : Hints := ⟨[], [], [4], [0, 1, 2], []⟩
def laws_szUpdate.lps (k : Nat) : List (Nat × Lp laws_szUpdate.sg.Out) := []
theorem laws_szUpdate.loops (k : Nat) : LoopsOk laws_szUpdate.E k laws_szUpdate.hd (laws_szUpdate.lps k) (loopsOf (Go.Proofs.Try.f13.body.getD .skip)) := trivial
theorem laws_szUpdate.den (k : Nat) (x : Sig.In laws_szUpdate.sg.ps) : denFn laws_szUpdate.E k Go.Proofs.Try.f13 laws_szUpdate.sg laws_szUpdate.hd (runL k laws_szUpdate.hd (laws_szUpdate.lps k)) x = laws_szUpdate.F k x := by kernel_rfl
theorem laws_szUpdate.ok (k : Nat) : Contract Try.prog 13 laws_szUpdate.sg (laws_szUpdate.F k) := ok_of (E := laws_szUpdate.E) (tysOk _ _) (eqsOk _) ⟨laws_szPrefixS.ok k, laws_szAttrs.ok k, trivial⟩ Try.func13 rfl (by kernel_rfl) (laws_szUpdate.loops k) (laws_szUpdate.den k)
def laws_szMessage.sg : Sig := ⟨[.b kMessage, .b (.int .i64)], [((.int .i64), .rd)]⟩
def laws_szMessage.E : Env := ⟨tys, bys, [(13, ⟨laws_szUpdate.sg, laws_szUpdate.F⟩)], eqs⟩
def laws_szMessage.F (k : Nat) (x : ((Int × (Int × (Int × (Int × (Int × (Int × (((List (Int × (Int × Unit))) × (Bool × ((Int × ((List Int) × (Int × (Int × (Int × Unit))))) × ((List (Int × (Int × Unit))) × Unit)))) × Unit))))))) × (Int × Unit))) : Option ((Int × Unit) × Unit) :=
  (laws_szUpdate.F k (x.1.2.2.2.2.2.2.1, x.2)).bind fun y0 =>
  bif (decide ((y0.1.1 < (0 : Int)))) then
  (some (((-(1 : Int)), ()), ()))
  else some y0
def laws_szMessage.hd : Hints := ⟨[], [], [4], [0, 1, 2], []⟩
def laws_szMessage.lps (k : Nat) : List (Nat × Lp laws_szMessage.sg.Out) := []
theorem laws_szMessage.loops (k : Nat) : LoopsOk laws_szMessage.E k laws_szMessage.hd (laws_szMessage.lps k) (loopsOf (Go.Proofs.Try.f4.body.getD .skip)) := trivial
theorem laws_szMessage.den (k : Nat) (x : Sig.In laws_szMessage.sg.ps) : denFn laws_szMessage.E k Go.Proofs.Try.f4 laws_szMessage.sg laws_szMessage.hd (runL k laws_szMessage.hd (laws_szMessage.lps k)) x = laws_szMessage.F k x := by kernel_rfl
theorem laws_szMessage.ok (k : Nat) : Contract Try.prog 4 laws_szMessage.sg (laws_szMessage.F k) := ok_of (E := laws_szMessage.E) (tysOk _ _) (eqsOk _) ⟨laws_szUpdate.ok k, trivial⟩ Try.func4 rfl (by kernel_rfl) (laws_szMessage.loops k) (laws_szMessage.den k)
def spec_l1In.sg : Sig := ⟨[.b (.int .i64), .b (.int .i64), .b (.int .i64)], [(.bool, .rd)]⟩
def spec_l1In.E : Env := ⟨tys, bys, [], eqs⟩
def spec_l1In.F (k : Nat) (x : (Int × (Int × (Int × Unit)))) : Option ((Bool × Unit) × Unit) :=
  bif (decide ((x.1 ≥ x.2.1))) then
  (some (((decide ((x.1 ≤ x.2.2.1))), ()), ()))
  else some ((false, ()), ())
def spec_l1In.hd : Hints := ⟨[], [], [6], [0, 1, 2], []⟩
def spec_l1In.lps (k : Nat) : List (Nat × Lp spec_l1In.sg.Out) := []
theorem spec_l1In.loops (k : Nat) : LoopsOk spec_l1In.E k spec_l1In.hd (spec_l1In.lps k) (loopsOf (Go.Proofs.Try.f36.body.getD .skip)) := trivial
theorem spec_l1In.den (k : Nat) (x : Sig.In spec_l1In.sg.ps) : denFn spec_l1In.E k Go.Proofs.Try.f36 spec_l1In.sg spec_l1In.hd (runL k spec_l1In.hd (spec_l1In.lps k)) x = spec_l1In.F k x := by kernel_rfl
theorem spec_l1In.ok (k : Nat) : Contract Try.prog 36 spec_l1In.sg (spec_l1In.F k) := ok_of (E := spec_l1In.E) (tysOk _ _) (eqsOk _) trivial Try.func36 rfl (by kernel_rfl) (spec_l1In.loops k) (spec_l1In.den k)
def spec_l4Hold.sg : Sig := ⟨[.b (.int .i64)], [(.bool, .rd)]⟩
def spec_l4Hold.E : Env := ⟨tys, bys, [(36, ⟨spec_l1In.sg, spec_l1In.F⟩)], eqs⟩
def spec_l4Hold.F (k : Nat) (x : (Int × Unit)) : Option ((Bool × Unit) × Unit) :=
  bif (x.1 == (0 : Int)) then
  (some ((true, ()), ()))
  else (spec_l1In.F k (x.1, (3 : Int), (200 : Int), ())).bind fun y0 =>
    some y0
def spec_l4Hold.hd : Hints := ⟨[], [], [2], [0], []⟩
def spec_l4Hold.lps (k : Nat) : List (Nat × Lp spec_l4Hold.sg.Out) := []
theorem spec_l4Hold.loops (k : Nat) : LoopsOk spec_l4Hold.E k spec_l4Hold.hd (spec_l4Hold.lps k) (loopsOf (Go.Proofs.Try.f37.body.getD .skip)) := trivial
theorem spec_l4Hold.den (k : Nat) (x : Sig.In spec_l4Hold.sg.ps) : denFn spec_l4Hold.E k Go.Proofs.Try.f37 spec_l4Hold.sg spec_l4Hold.hd (runL k spec_l4Hold.hd (spec_l4Hold.lps k)) x = spec_l4Hold.F k x := by kernel_rfl
theorem spec_l4Hold.ok (k : Nat) : Contract Try.prog 37 spec_l4Hold.sg (spec_l4Hold.F k) := ok_of (E := spec_l4Hold.E) (tysOk _ _) (eqsOk _) ⟨spec_l1In.ok k, trivial⟩ Try.func37 rfl (by kernel_rfl) (spec_l4Hold.loops k) (spec_l4Hold.den k)
def spec_l3Zero.sg : Sig := ⟨[.b kAttrs], [(.bool, .rd)]⟩
def spec_l3Zero.E : Env := ⟨tys, bys, [], eqs⟩
def spec_l3Zero.F (k : Nat) (x : ((Int × ((List Int) × (Int × (Int × (Int × Unit))))) × Unit)) : Option ((Bool × Unit) × Unit) :=
  bif (x.1.1 == (0 : Int)) then
  (bif ((((List.length x.1.2.1) : Nat) : Int) == (0 : Int)) then
    (bif (x.1.2.2.1 == (0 : Int)) then
      (bif (x.1.2.2.2.1 == (0 : Int)) then
        (some (((x.1.2.2.2.2.1 == (0 : Int)), ()), ()))
        else some ((false, ()), ()))
      else some ((false, ()), ()))
    else some ((false, ()), ()))
  else some ((false, ()), ())
def spec_l3Zero.hd : Hints := ⟨[], [], [2], [0, 1], []⟩
def spec_l3Zero.lps (k : Nat) : List (Nat × Lp spec_l3Zero.sg.Out) := []
theorem spec_l3Zero.loops (k : Nat) : LoopsOk spec_l3Zero.E k spec_l3Zero.hd (spec_l3Zero.lps k) (loopsOf (Go.Proofs.Try.f60.body.getD .skip)) := trivial
theorem spec_l3Zero.den (k : Nat) (x : Sig.In spec_l3Zero.sg.ps) : denFn spec_l3Zero.E k Go.Proofs.Try.f60 spec_l3Zero.sg spec_l3Zero.hd (runL k spec_l3Zero.hd (spec_l3Zero.lps k)) x = spec_l3Zero.F k x := by kernel_rfl
theorem spec_l3Zero.ok (k : Nat) : Contract Try.prog 60 spec_l3Zero.sg (spec_l3Zero.F k) := ok_of (E := spec_l3Zero.E) (tysOk _ _) (eqsOk _) trivial Try.func60 rfl (by kernel_rfl) (spec_l3Zero.loops k) (spec_l3Zero.den k)
def spec_l4Zero.sg : Sig := ⟨[.b kUpdate], [(.bool, .rd)]⟩
def spec_l4Zero.E : Env := ⟨tys, bys, [(60, ⟨spec_l3Zero.sg, spec_l3Zero.F⟩)], eqs⟩
def spec_l4Zero.F (k : Nat) (x : (((List (Int × (Int × Unit))) × (Bool × ((Int × ((List Int) × (Int × (Int × (Int × Unit))))) × ((List (Int × (Int × Unit))) × Unit)))) × Unit)) : Option ((Bool × Unit) × Unit) :=
  bif ((((List.length x.1.1) : Nat) : Int) == (0 : Int)) then
  (bif ((((List.length x.1.2.2.2.1) : Nat) : Int) == (0 : Int)) then
    (bif (!x.1.2.1) then
      ((spec_l3Zero.F k (x.1.2.2.1, ())).bind fun y0 =>
        some y0)
      else some ((false, ()), ()))
    else some ((false, ()), ()))
  else some ((false, ()), ())
def spec_l4Zero.hd : Hints := ⟨[], [], [2], [0, 1], []⟩
def spec_l4Zero.lps (k : Nat) : List (Nat × Lp spec_l4Zero.sg.Out) := []
theorem spec_l4Zero.loops (k : Nat) : LoopsOk spec_l4Zero.E k spec_l4Zero.hd (spec_l4Zero.lps k) (loopsOf (Go.Proofs.Try.f58.body.getD .skip)) := trivial
theorem spec_l4Zero.den (k : Nat) (x : Sig.In spec_l4Zero.sg.ps) : denFn spec_l4Zero.E k Go.Proofs.Try.f58 spec_l4Zero.sg spec_l4Zero.hd (runL k spec_l4Zero.hd (spec_l4Zero.lps k)) x = spec_l4Zero.F k x := by kernel_rfl
theorem spec_l4Zero.ok (k : Nat) : Contract Try.prog 58 spec_l4Zero.sg (spec_l4Zero.F k) := ok_of (E := spec_l4Zero.E) (tysOk _ _) (eqsOk _) ⟨spec_l3Zero.ok k, trivial⟩ Try.func58 rfl (by kernel_rfl) (spec_l4Zero.loops k) (spec_l4Zero.den k)
def spec_l4Bare.sg : Sig := ⟨[.b kMessage], [(.bool, .rd)]⟩
def spec_l4Bare.E : Env := ⟨tys, bys, [(58, ⟨spec_l4Zero.sg, spec_l4Zero.F⟩)], eqs⟩
def spec_l4Bare.F (k : Nat) (x : ((Int × (Int × (Int × (Int × (Int × (Int × (((List (Int × (Int × Unit))) × (Bool × ((Int × ((List Int) × (Int × (Int × (Int × Unit))))) × ((List (Int × (Int × Unit))) × Unit)))) × Unit))))))) × Unit)) : Option ((Bool × Unit) × Unit) :=
  bif (x.1.2.1 == (0 : Int)) then
  (bif (x.1.2.2.1 == (0 : Int)) then
    (bif (x.1.2.2.2.2.1 == (0 : Int)) then
      (bif (x.1.1 == (1 : Int)) then
        (bif (x.1.2.2.2.2.2.1 == (0 : Int)) then
          ((spec_l4Zero.F k x.1.2.2.2.2.2.2).bind fun y0 =>
            some y0)
          else some ((false, ()), ()))
        else bif (x.1.1 == (3 : Int)) then
          (bif (x.1.2.2.2.1 == (0 : Int)) then
            ((spec_l4Zero.F k x.1.2.2.2.2.2.2).bind fun y1 =>
              some y1)
            else some ((false, ()), ()))
          else bif (x.1.1 == (2 : Int)) then
            (bif (x.1.2.2.2.1 == (0 : Int)) then
              (some (((x.1.2.2.2.2.2.1 == (0 : Int)), ()), ()))
              else some ((false, ()), ()))
            else bif (x.1.2.2.2.1 == (0 : Int)) then
              (bif (x.1.2.2.2.2.2.1 == (0 : Int)) then
                ((spec_l4Zero.F k x.1.2.2.2.2.2.2).bind fun y2 =>
                  some y2)
                else some ((false, ()), ()))
              else some ((false, ()), ()))
      else bif (x.1.1 == (1 : Int)) then
        (some ((false, ()), ()))
        else bif (x.1.1 == (3 : Int)) then
          (bif (x.1.2.2.2.1 == (0 : Int)) then
            ((spec_l4Zero.F k x.1.2.2.2.2.2.2).bind fun y3 =>
              some y3)
            else some ((false, ()), ()))
          else bif (x.1.1 == (2 : Int)) then
            (bif (x.1.2.2.2.1 == (0 : Int)) then
              (some ((false, ()), ()))
              else some ((false, ()), ()))
            else bif (x.1.2.2.2.1 == (0 : Int)) then
              (some ((false, ()), ()))
              else some ((false, ()), ()))
    else bif (x.1.2.2.2.2.1 == (0 : Int)) then
      (bif (x.1.1 == (1 : Int)) then
        (bif (x.1.2.2.2.2.2.1 == (0 : Int)) then
          ((spec_l4Zero.F k x.1.2.2.2.2.2.2).bind fun y4 =>
            some y4)
          else some ((false, ()), ()))
        else bif (x.1.1 == (3 : Int)) then
          (some ((false, ()), ()))
          else bif (x.1.1 == (2 : Int)) then
            (some ((false, ()), ()))
            else some ((false, ()), ()))
      else bif (x.1.1 == (1 : Int)) then
        (some ((false, ()), ()))
        else bif (x.1.1 == (3 : Int)) then
          (some ((false, ()), ()))
          else bif (x.1.1 == (2 : Int)) then
            (some ((false, ()), ()))
            else some ((false, ()), ()))
  else bif (x.1.2.2.2.2.1 == (0 : Int)) then
    (bif (x.1.1 == (1 : Int)) then
      (bif (x.1.2.2.2.2.2.1 == (0 : Int)) then
        ((spec_l4Zero.F k x.1.2.2.2.2.2.2).bind fun y5 =>
          some y5)
        else some ((false, ()), ()))
      else bif (x.1.1 == (3 : Int)) then
        (some ((false, ()), ()))
        else bif (x.1.1 == (2 : Int)) then
          (some ((false, ()), ()))
          else some ((false, ()), ()))
    else bif (x.1.1 == (1 : Int)) then
      (some ((false, ()), ()))
      else bif (x.1.1 == (3 : Int)) then
        (some ((false, ()), ()))
        else bif (x.1.1 == (2 : Int)) then
          (some ((false, ()), ()))
          else some ((false, ()), ())
def spec_l4Bare.hd : Hints := ⟨[], [(0, [1, 3, 4])], [2], [0, 1, 3, 4, 27], []⟩
def spec_l4Bare.lps (k : Nat) : List (Nat × Lp spec_l4Bare.sg.Out) := []
theorem spec_l4Bare.loops (k : Nat) : LoopsOk spec_l4Bare.E k spec_l4Bare.hd (spec_l4Bare.lps k) (loopsOf (Go.Proofs.Try.f38.body.getD .skip)) := trivial
theorem spec_l4Bare.den (k : Nat) (x : Sig.In spec_l4Bare.sg.ps) : denFn spec_l4Bare.E k Go.Proofs.Try.f38 spec_l4Bare.sg spec_l4Bare.hd (runL k spec_l4Bare.hd (spec_l4Bare.lps k)) x = spec_l4Bare.F k x := by kernel_rfl
theorem spec_l4Bare.ok (k : Nat) : Contract Try.prog 38 spec_l4Bare.sg (spec_l4Bare.F k) := ok_of (E := spec_l4Bare.E) (tysOk _ _) (eqsOk _) ⟨spec_l4Zero.ok k, trivial⟩ Try.func38 rfl (by kernel_rfl) (spec_l4Bare.loops k) (spec_l4Bare.den k)
def spec_l2Addr.sg : Sig := ⟨[.b (.int .i64)], [(.bool, .rd)]⟩
def spec_l2Addr.E : Env := ⟨tys, bys, [(36, ⟨spec_l1In.sg, spec_l1In.F⟩)], eqs⟩
def spec_l2Addr.F (k : Nat) (x : (Int × Unit)) : Option ((Bool × Unit) × Unit) :=
  (spec_l1In.F k (x.1, (0 : Int), (65535 : Int), ())).bind fun y0 =>
  some y0
def spec_l2Addr.hd : Hints := ⟨[], [], [2], [0], []⟩
def spec_l2Addr.lps (k : Nat) : List (Nat × Lp spec_l2Addr.sg.Out) := []
theorem spec_l2Addr.loops (k : Nat) : LoopsOk spec_l2Addr.E k spec_l2Addr.hd (spec_l2Addr.lps k) (loopsOf (Go.Proofs.Try.f77.body.getD .skip)) := trivial
theorem spec_l2Addr.den (k : Nat) (x : Sig.In spec_l2Addr.sg.ps) : denFn spec_l2Addr.E k Go.Proofs.Try.f77 spec_l2Addr.sg spec_l2Addr.hd (runL k spec_l2Addr.hd (spec_l2Addr.lps k)) x = spec_l2Addr.F k x := by kernel_rfl
theorem spec_l2Addr.ok (k : Nat) : Contract Try.prog 77 spec_l2Addr.sg (spec_l2Addr.F k) := ok_of (E := spec_l2Addr.E) (tysOk _ _) (eqsOk _) ⟨spec_l1In.ok k, trivial⟩ Try.func77 rfl (by kernel_rfl) (spec_l2Addr.loops k) (spec_l2Addr.den k)
def spec_l2Rest.sg : Sig := ⟨[.b (.int .i64)], [((.int .i64), .rd)]⟩
def spec_l2Rest.E : Env := ⟨tys, bys, [], eqs⟩
def spec_l2Rest.F (k : Nat) (x : (Int × Unit)) : Option ((Int × Unit) × Unit) :=
  bif (decide (((IntKind.wrap .u64 (IntKind.wrap .i64 ((16 : Int) - x.1))) < (0 : Int)))) then
  (none)
  else some (((IntKind.wrap .i64 ((Go.Dn.shlV .i64 (1 : Int) (IntKind.wrap .u64 (IntKind.wrap .i64 ((16 : Int) - x.1)))) - (1 : Int))), ()), ())
def spec_l2Rest.hd : Hints := ⟨[], [], [2], [0], []⟩
def spec_l2Rest.lps (k : Nat) : List (Nat × Lp spec_l2Rest.sg.Out) := []
theorem spec_l2Rest.loops (k : Nat) : LoopsOk spec_l2Rest.E k spec_l2Rest.hd (spec_l2Rest.lps k) (loopsOf (Go.Proofs.Try.f78.body.getD .skip)) := trivial
theorem spec_l2Rest.den (k : Nat) (x : Sig.In spec_l2Rest.sg.ps) : denFn spec_l2Rest.E k Go.Proofs.Try.f78 spec_l2Rest.sg spec_l2Rest.hd (runL k spec_l2Rest.hd (spec_l2Rest.lps k)) x = spec_l2Rest.F k x := by kernel_rfl
theorem spec_l2Rest.ok (k : Nat) : Contract Try.prog 78 spec_l2Rest.sg (spec_l2Rest.F k) := ok_of (E := spec_l2Rest.E) (tysOk _ _) (eqsOk _) trivial Try.func78 rfl (by kernel_rfl) (spec_l2Rest.loops k) (spec_l2Rest.den k)
def spec_PrefixFault.sg : Sig := ⟨[.b kPrefix], [((.int .i64), .rd)]⟩
def spec_PrefixFault.E : Env := ⟨tys, bys, [(36, ⟨spec_l1In.sg, spec_l1In.F⟩), (77, ⟨spec_l2Addr.sg, spec_l2Addr.F⟩), (78, ⟨spec_l2Rest.sg, spec_l2Rest.F⟩)], eqs⟩
def spec_PrefixFault.F (k : Nat) (x : ((Int × (Int × Unit)) × Unit)) : Option ((Int × Unit) × Unit) :=
  (spec_l2Addr.F k (x.1.1, ())).bind fun y0 =>
  bif (!y0.1.1) then
  (some (((3 : Int), ()), ()))
  else (spec_l1In.F k (x.1.2.1, (0 : Int), (16 : Int), ())).bind fun y1 =>
    bif (!y1.1.1) then
    (some (((3 : Int), ()), ()))
    else (spec_l2Rest.F k x.1.2).bind fun y2 =>
      bif ((Go.Dn.andV .i64 x.1.1 y2.1.1) != (0 : Int)) then
      (some (((1 : Int), ()), ()))
      else some (((0 : Int), ()), ())
def spec_PrefixFault.hd : Hints := ⟨[], [], [2], [0, 1], [(3, [0, 1, 0, 4, 12, 31, 63])]⟩
def spec_PrefixFault.lps (k : Nat) : List (Nat × Lp spec_PrefixFault.sg.Out) := []
theorem spec_PrefixFault.loops (k : Nat) : LoopsOk spec_PrefixFault.E k spec_PrefixFault.hd (spec_PrefixFault.lps k) (loopsOf (Go.Proofs.Try.f69.body.getD .skip)) := trivial
theorem spec_PrefixFault.den (k : Nat) (x : Sig.In spec_PrefixFault.sg.ps) : denFn spec_PrefixFault.E k Go.Proofs.Try.f69 spec_PrefixFault.sg spec_PrefixFault.hd (runL k spec_PrefixFault.hd (spec_PrefixFault.lps k)) x = spec_PrefixFault.F k x := by kernel_rfl
theorem spec_PrefixFault.ok (k : Nat) : Contract Try.prog 69 spec_PrefixFault.sg (spec_PrefixFault.F k) := ok_of (E := spec_PrefixFault.E) (tysOk _ _) (eqsOk _) ⟨spec_l1In.ok k, spec_l2Addr.ok k, spec_l2Rest.ok k, trivial⟩ Try.func69 rfl (by kernel_rfl) (spec_PrefixFault.loops k) (spec_PrefixFault.den k)
def spec_l2List.sg : Sig := ⟨[.b (.sl kPrefix)], [((.int .i64), .rd)]⟩
def spec_l2List.E : Env := ⟨tys, bys, [(69, ⟨spec_PrefixFault.sg, spec_PrefixFault.F⟩)], eqs⟩
def spec_l2List.l4 {ρ : Type} (k : Nat) (c0 : (Int × Unit) → Option ρ) (c1 : Unit → Option ρ) : Nat → List (Int × (Int × Unit)) → Int → Option ρ
  | 0 => fun _ _ => none
  | n + 1 => fun x0 x1 => 
    bif (decide ((x1 < (((List.length x0) : Nat) : Int)))) then
    (bif (Go.Dn.inB x1 (((List.length x0) : Nat) : Int)) then
      (Go.Dn.share (List.getD x0 (Int.toNat x1) ((0 : Int), ((0 : Int), ()))) fun s0 =>
        (spec_PrefixFault.F k (s0, ())).bind fun y1 =>
        bif (y1.1.1 != (0 : Int)) then
        (c0 (y1.1.1, ()))
        else spec_l2List.l4 k c0 c1 n x0 (IntKind.wrap .i64 (x1 + (1 : Int))))
      else none)
    else c1 (())
def spec_l2List.F (k : Nat) (x : ((List (Int × (Int × Unit))) × Unit)) : Option ((Int × Unit) × Unit) :=
  bif (decide (((((List.length x.1) : Nat) : Int) > (200 : Int)))) then
  (some (((2 : Int), ()), ()))
  else spec_l2List.l4 k (fun e2 =>
      some (e2, ())) (fun e3 =>
      some (((0 : Int), ()), ())) k x.1 (0 : Int)
def spec_l2List.hd : Hints := ⟨[(4, ⟨[0, 3], []⟩)], [(0, []), (1, [0, 3])], [2], [0, 3, 4], []⟩
def spec_l2List.lps (k : Nat) : List (Nat × Lp spec_l2List.sg.Out) := [(4, ⟨[.l kPrefix, .i], fun x => (fun x0 x1 => ⟨[(0, .v false [.fz kPrefix x0]), (3, .v false [.int .i64 x1])], [], []⟩) x.1 x.2.1, fun C n x => spec_l2List.l4 k (fun y => C .ret ((fun y0 => ⟨[(2, .v false [.int .i64 y0])], [], []⟩) y.1)) (fun _ => C (.exit 0) ⟨[], [], []⟩) n x.1 x.2.1⟩)]
theorem spec_l2List.loops (k : Nat) : LoopsOk spec_l2List.E k spec_l2List.hd (spec_l2List.lps k) (loopsOf (Go.Proofs.Try.f59.body.getD .skip)) := ⟨⟨fun _ _ => rfl, fun _ _ _ => by kernel_rfl, fun _ => ⟨rfl, rfl⟩⟩, trivial⟩
theorem spec_l2List.den (k : Nat) (x : Sig.In spec_l2List.sg.ps) : denFn spec_l2List.E k Go.Proofs.Try.f59 spec_l2List.sg spec_l2List.hd (runL k spec_l2List.hd (spec_l2List.lps k)) x = spec_l2List.F k x := by kernel_rfl
theorem spec_l2List.ok (k : Nat) : Contract Try.prog 59 spec_l2List.sg (spec_l2List.F k) := ok_of (E := spec_l2List.E) (tysOk _ _) (eqsOk _) ⟨spec_PrefixFault.ok k, trivial⟩ Try.func59 rfl (by kernel_rfl) (spec_l2List.loops k) (spec_l2List.den k)
def spec_l3Word.sg : Sig := ⟨[.b (.int .i64)], [(.bool, .rd)]⟩
def spec_l3Word.E : Env := ⟨tys, bys, [(36, ⟨spec_l1In.sg, spec_l1In.F⟩)], eqs⟩
def spec_l3Word.F (k : Nat) (x : (Int × Unit)) : Option ((Bool × Unit) × Unit) :=
  (spec_l1In.F k (x.1, (0 : Int), (65535 : Int), ())).bind fun y0 =>
  some y0
def spec_l3Word.hd : Hints := ⟨[], [], [2], [0], []⟩
def spec_l3Word.lps (k : Nat) : List (Nat × Lp spec_l3Word.sg.Out) := []
theorem spec_l3Word.loops (k : Nat) : LoopsOk spec_l3Word.E k spec_l3Word.hd (spec_l3Word.lps k) (loopsOf (Go.Proofs.Try.f70.body.getD .skip)) := trivial
theorem spec_l3Word.den (k : Nat) (x : Sig.In spec_l3Word.sg.ps) : denFn spec_l3Word.E k Go.Proofs.Try.f70 spec_l3Word.sg spec_l3Word.hd (runL k spec_l3Word.hd (spec_l3Word.lps k)) x = spec_l3Word.F k x := by kernel_rfl
theorem spec_l3Word.ok (k : Nat) : Contract Try.prog 70 spec_l3Word.sg (spec_l3Word.F k) := ok_of (E := spec_l3Word.E) (tysOk _ _) (eqsOk _) ⟨spec_l1In.ok k, trivial⟩ Try.func70 rfl (by kernel_rfl) (spec_l3Word.loops k) (spec_l3Word.den k)
def spec_AttrsFault.sg : Sig := ⟨[.b kAttrs], [((.int .i64), .rd)]⟩
def spec_AttrsFault.E : Env := ⟨tys, bys, [(36, ⟨spec_l1In.sg, spec_l1In.F⟩), (70, ⟨spec_l3Word.sg, spec_l3Word.F⟩)], eqs⟩
def spec_AttrsFault.l6 {ρ : Type} (k : Nat) (c0 : (Int × Unit) → Option ρ) (c1 : Unit → Option ρ) : Nat → Int → Int → List Int → Int → Int → Int → Option ρ
  | 0 => fun _ _ _ _ _ _ => none
  | n + 1 => fun x0 x1 x2 x3 x4 x5 => 
    bif (decide ((x0 < (((List.length x2) : Nat) : Int)))) then
    (bif (Go.Dn.inB x0 (((List.length x2) : Nat) : Int)) then
      (Go.Dn.share (List.getD x2 (Int.toNat x0) (0 : Int)) fun s4 =>
        (spec_l1In.F k (s4, (1 : Int), (65535 : Int), ())).bind fun y5 =>
        bif (!y5.1.1) then
        (c0 ((3 : Int), ()))
        else spec_AttrsFault.l6 k c0 c1 n (IntKind.wrap .i64 (x0 + (1 : Int))) x1 x2 x3 x4 x5)
      else none)
    else c1 (())
def spec_AttrsFault.F (k : Nat) (x : ((Int × ((List Int) × (Int × (Int × (Int × Unit))))) × Unit)) : Option ((Int × Unit) × Unit) :=
  (spec_l1In.F k (x.1.1, (0 : Int), (2 : Int), ())).bind fun y0 =>
  bif (!y0.1.1) then
  (some (((3 : Int), ()), ()))
  else (spec_l3Word.F k (x.1.2.2.1, ())).bind fun y1 =>
    bif (!y1.1.1) then
    (some (((3 : Int), ()), ()))
    else (spec_l3Word.F k (x.1.2.2.2.1, ())).bind fun y2 =>
      bif (!y2.1.1) then
      (some (((3 : Int), ()), ()))
      else (spec_l3Word.F k x.1.2.2.2.2).bind fun y3 =>
        bif (!y3.1.1) then
        (some (((3 : Int), ()), ()))
        else bif (decide (((((List.length x.1.2.1) : Nat) : Int) > (6 : Int)))) then
          (some (((2 : Int), ()), ()))
          else spec_AttrsFault.l6 k (fun e6 =>
              some (e6, ())) (fun e7 =>
              some (((0 : Int), ()), ())) k (0 : Int) x.1.1 x.1.2.1 x.1.2.2.1 x.1.2.2.2.1 x.1.2.2.2.2.1
def spec_AttrsFault.hd : Hints := ⟨[(6, ⟨[1, 3], []⟩)], [(0, []), (1, [1, 3])], [2], [0, 1, 3], []⟩
def spec_AttrsFault.lps (k : Nat) : List (Nat × Lp spec_AttrsFault.sg.Out) := [(6, ⟨[.i, .i, .l (.int .i64), .i, .i, .i], fun x => (fun x0 x1 x2 x3 x4 x5 => ⟨[(1, .v false [.box 0 0]), (3, .v false [.int .i64 x0])], [(0, .box [.int .i64 x1, .fz (.int .i64) x2, .int .i64 x3, .int .i64 x4, .int .i64 x5])], []⟩) x.1 x.2.1 x.2.2.1 x.2.2.2.1 x.2.2.2.2.1 x.2.2.2.2.2.1, fun C n x => spec_AttrsFault.l6 k (fun y => C .ret ((fun y0 => ⟨[(2, .v false [.int .i64 y0])], [], []⟩) y.1)) (fun _ => C (.exit 0) ⟨[], [], []⟩) n x.1 x.2.1 x.2.2.1 x.2.2.2.1 x.2.2.2.2.1 x.2.2.2.2.2.1⟩)]
theorem spec_AttrsFault.loops (k : Nat) : LoopsOk spec_AttrsFault.E k spec_AttrsFault.hd (spec_AttrsFault.lps k) (loopsOf (Go.Proofs.Try.f61.body.getD .skip)) := ⟨⟨fun _ _ => rfl, fun _ _ _ => by kernel_rfl, fun _ => ⟨rfl, rfl⟩⟩, trivial⟩
theorem spec_AttrsFault.den (k : Nat) (x : Sig.In spec_AttrsFault.sg.ps) : denFn spec_AttrsFault.E k Go.Proofs.Try.f61 spec_AttrsFault.sg spec_AttrsFault.hd (runL k spec_AttrsFault.hd (spec_AttrsFault.lps k)) x = spec_AttrsFault.F k x := by kernel_rfl
theorem spec_AttrsFault.ok (k : Nat) : Contract Try.prog 61 spec_AttrsFault.sg (spec_AttrsFault.F k) := ok_of (E := spec_AttrsFault.E) (tysOk _ _) (eqsOk _) ⟨spec_l1In.ok k, spec_l3Word.ok k, trivial⟩ Try.func61 rfl (by kernel_rfl) (spec_AttrsFault.loops k) (spec_AttrsFault.den k)
def spec_UpdateFault.sg : Sig := ⟨[.b kUpdate], [((.int .i64), .rd)]⟩
def spec_UpdateFault.E : Env := ⟨tys, bys, [(59, ⟨spec_l2List.sg, spec_l2List.F⟩), (60, ⟨spec_l3Zero.sg, spec_l3Zero.F⟩), (61, ⟨spec_AttrsFault.sg, spec_AttrsFault.F⟩)], eqs⟩
def spec_UpdateFault.F (k : Nat) (x : (((List (Int × (Int × Unit))) × (Bool × ((Int × ((List Int) × (Int × (Int × (Int × Unit))))) × ((List (Int × (Int × Unit))) × Unit)))) × Unit)) : Option ((Int × Unit) × Unit) :=
  bif (decide (((((List.length x.1.1) : Nat) : Int) > (8 : Int)))) then
  (some (((2 : Int), ()), ()))
  else bif (decide (((((List.length x.1.2.2.2.1) : Nat) : Int) > (8 : Int)))) then
    (some (((2 : Int), ()), ()))
    else (spec_l2List.F k (x.1.1, ())).bind fun y0 =>
      bif (y0.1.1 != (0 : Int)) then
      (some y0)
      else (spec_l2List.F k x.1.2.2.2).bind fun y1 =>
        bif (y1.1.1 != (0 : Int)) then
        (some y1)
        else bif (!x.1.2.1) then
          (bif (decide (((((List.length x.1.2.2.2.1) : Nat) : Int) > (0 : Int)))) then
            (some (((1 : Int), ()), ()))
            else (spec_l3Zero.F k (x.1.2.2.1, ())).bind fun y2 =>
              bif (!y2.1.1) then
              (some (((1 : Int), ()), ()))
              else bif x.1.2.1 then
                (bif ((((List.length x.1.2.2.2.1) : Nat) : Int) == (0 : Int)) then
                  (some (((1 : Int), ()), ()))
                  else bif x.1.2.1 then
                    ((spec_AttrsFault.F k (x.1.2.2.1, ())).bind fun y3 =>
                      some y3)
                    else some (((0 : Int), ()), ()))
                else bif x.1.2.1 then
                  ((spec_AttrsFault.F k (x.1.2.2.1, ())).bind fun y4 =>
                    some y4)
                  else some (((0 : Int), ()), ()))
          else bif x.1.2.1 then
            (bif ((((List.length x.1.2.2.2.1) : Nat) : Int) == (0 : Int)) then
              (some (((1 : Int), ()), ()))
              else bif x.1.2.1 then
                ((spec_AttrsFault.F k (x.1.2.2.1, ())).bind fun y5 =>
                  some y5)
                else some (((0 : Int), ()), ()))
            else bif x.1.2.1 then
              ((spec_AttrsFault.F k (x.1.2.2.1, ())).bind fun y6 =>
                some y6)
              else some (((0 : Int), ()), ())
def spec_UpdateFault.hd : Hints := ⟨[], [], [2], [0, 1, 3, 4], []⟩
def spec_UpdateFault.lps (k : Nat) : List (Nat × Lp spec_UpdateFault.sg.Out) := []
theorem spec_UpdateFault.loops (k : Nat) : LoopsOk spec_UpdateFault.E k spec_UpdateFault.hd (spec_UpdateFault.lps k) (loopsOf (Go.Proofs.Try.f39.body.getD .skip)) := trivial
theorem spec_UpdateFault.den (k : Nat) (x : Sig.In spec_UpdateFault.sg.ps) : denFn spec_UpdateFault.E k Go.Proofs.Try.f39 spec_UpdateFault.sg spec_UpdateFault.hd (runL k spec_UpdateFault.hd (spec_UpdateFault.lps k)) x = spec_UpdateFault.F k x := by kernel_rfl
theorem spec_UpdateFault.ok (k : Nat) : Contract Try.prog 39 spec_UpdateFault.sg (spec_UpdateFault.F k) := ok_of (E := spec_UpdateFault.E) (tysOk _ _) (eqsOk _) ⟨spec_l2List.ok k, spec_l3Zero.ok k, spec_AttrsFault.ok k, trivial⟩ Try.func39 rfl (by kernel_rfl) (spec_UpdateFault.loops k) (spec_UpdateFault.den k)
def spec_MessageFault.sg : Sig := ⟨[.b kMessage], [((.int .i64), .rd)]⟩
def spec_MessageFault.E : Env := ⟨tys, bys, [(36, ⟨spec_l1In.sg, spec_l1In.F⟩), (37, ⟨spec_l4Hold.sg, spec_l4Hold.F⟩), (38, ⟨spec_l4Bare.sg, spec_l4Bare.F⟩), (39, ⟨spec_UpdateFault.sg, spec_UpdateFault.F⟩)], eqs⟩
def spec_MessageFault.F (k : Nat) (x : ((Int × (Int × (Int × (Int × (Int × (Int × (((List (Int × (Int × Unit))) × (Bool × ((Int × ((List Int) × (Int × (Int × (Int × Unit))))) × ((List (Int × (Int × Unit))) × Unit)))) × Unit))))))) × Unit)) : Option ((Int × Unit) × Unit) :=
  (spec_l1In.F k (x.1.1, (1 : Int), (4 : Int), ())).bind fun y0 =>
  bif (!y0.1.1) then
  (some (((1 : Int), ()), ()))
  else bif (x.1.1 == (1 : Int)) then
    ((spec_l1In.F k (x.1.2.1, (1 : Int), (65535 : Int), ())).bind fun y1 =>
      bif (!y1.1.1) then
      (some (((3 : Int), ()), ()))
      else (spec_l4Hold.F k (x.1.2.2.1, ())).bind fun y2 =>
        bif (!y2.1.1) then
        (some (((3 : Int), ()), ()))
        else (spec_l1In.F k (x.1.2.2.2.1, (1 : Int), (65535 : Int), ())).bind fun y3 =>
          bif (!y3.1.1) then
          (some (((3 : Int), ()), ()))
          else bif (x.1.1 == (3 : Int)) then
            ((spec_l1In.F k (x.1.2.2.2.2.1, (1 : Int), (6 : Int), ())).bind fun y4 =>
              bif (!y4.1.1) then
              (some (((3 : Int), ()), ()))
              else (spec_l1In.F k (x.1.2.2.2.2.2.1, (0 : Int), (20 : Int), ())).bind fun y5 =>
                bif (!y5.1.1) then
                (some (((3 : Int), ()), ()))
                else (spec_l4Bare.F k x).bind fun y6 =>
                  bif (!y6.1.1) then
                  (some (((1 : Int), ()), ()))
                  else bif (x.1.1 == (2 : Int)) then
                    ((spec_UpdateFault.F k x.1.2.2.2.2.2.2).bind fun y7 =>
                      some y7)
                    else some (((0 : Int), ()), ()))
            else (spec_l4Bare.F k x).bind fun y8 =>
              bif (!y8.1.1) then
              (some (((1 : Int), ()), ()))
              else bif (x.1.1 == (2 : Int)) then
                ((spec_UpdateFault.F k x.1.2.2.2.2.2.2).bind fun y9 =>
                  some y9)
                else some (((0 : Int), ()), ()))
    else bif (x.1.1 == (3 : Int)) then
      ((spec_l1In.F k (x.1.2.2.2.2.1, (1 : Int), (6 : Int), ())).bind fun y10 =>
        bif (!y10.1.1) then
        (some (((3 : Int), ()), ()))
        else (spec_l1In.F k (x.1.2.2.2.2.2.1, (0 : Int), (20 : Int), ())).bind fun y11 =>
          bif (!y11.1.1) then
          (some (((3 : Int), ()), ()))
          else (spec_l4Bare.F k x).bind fun y12 =>
            bif (!y12.1.1) then
            (some (((1 : Int), ()), ()))
            else bif (x.1.1 == (2 : Int)) then
              ((spec_UpdateFault.F k x.1.2.2.2.2.2.2).bind fun y13 =>
                some y13)
              else some (((0 : Int), ()), ()))
      else (spec_l4Bare.F k x).bind fun y14 =>
        bif (!y14.1.1) then
        (some (((1 : Int), ()), ()))
        else bif (x.1.1 == (2 : Int)) then
          ((spec_UpdateFault.F k x.1.2.2.2.2.2.2).bind fun y15 =>
            some y15)
          else some (((0 : Int), ()), ())
def spec_MessageFault.hd : Hints := ⟨[], [], [2], [0, 1], []⟩
def spec_MessageFault.lps (k : Nat) : List (Nat × Lp spec_MessageFault.sg.Out) := []
theorem spec_MessageFault.loops (k : Nat) : LoopsOk spec_MessageFault.E k spec_MessageFault.hd (spec_MessageFault.lps k) (loopsOf (Go.Proofs.Try.f24.body.getD .skip)) := trivial
theorem spec_MessageFault.den (k : Nat) (x : Sig.In spec_MessageFault.sg.ps) : denFn spec_MessageFault.E k Go.Proofs.Try.f24 spec_MessageFault.sg spec_MessageFault.hd (runL k spec_MessageFault.hd (spec_MessageFault.lps k)) x = spec_MessageFault.F k x := by kernel_rfl
theorem spec_MessageFault.ok (k : Nat) : Contract Try.prog 24 spec_MessageFault.sg (spec_MessageFault.F k) := ok_of (E := spec_MessageFault.E) (tysOk _ _) (eqsOk _) ⟨spec_l1In.ok k, spec_l4Hold.ok k, spec_l4Bare.ok k, spec_UpdateFault.ok k, trivial⟩ Try.func24 rfl (by kernel_rfl) (spec_MessageFault.loops k) (spec_MessageFault.den k)
def spec_l1Bytes.sg : Sig := ⟨[.b (.int .i64), .b (.int .i64)], [((.sl (.int .u8)), .fl)]⟩
def spec_l1Bytes.E : Env := ⟨tys, bys, [], eqs⟩
def spec_l1Bytes.l3 {ρ : Type} (k : Nat) (c0 : (List Int × Unit) → Option ρ) : Nat → Int → Int → List Int → Option ρ
  | 0 => fun _ _ _ => none
  | n + 1 => fun x0 x1 x2 => 
    bif (decide ((x1 ≥ (0 : Int)))) then
    (bif (decide (((IntKind.wrap .u64 (IntKind.wrap .i64 ((8 : Int) * x1))) < (0 : Int)))) then
      (none)
      else bif (Go.Dn.roomy ((List.length x2) + (List.length [(IntKind.wrap .u8 (Go.Dn.shrV .i64 x0 (IntKind.wrap .u64 (IntKind.wrap .i64 ((8 : Int) * x1)))))])) 1) then
        (Go.Dn.share (x2 ++ [(IntKind.wrap .u8 (Go.Dn.shrV .i64 x0 (IntKind.wrap .u64 (IntKind.wrap .i64 ((8 : Int) * x1)))))]) fun s0 =>
          spec_l1Bytes.l3 k c0 n x0 (IntKind.wrap .i64 (x1 - (1 : Int))) s0)
        else none)
    else c0 (x2, ())
def spec_l1Bytes.F (k : Nat) (x : (Int × (Int × Unit))) : Option (((List Int) × Unit) × Unit) :=
  spec_l1Bytes.l3 k (fun e1 =>
    some (e1, ())) k x.1 (IntKind.wrap .i64 (x.2.1 - (1 : Int))) ([] : List Int)
def spec_l1Bytes.hd : Hints := ⟨[(3, ⟨[0, 5, 6], []⟩)], [(0, [5]), (1, [0, 5, 6])], [4], [0, 1, 5, 6], []⟩
def spec_l1Bytes.lps (k : Nat) : List (Nat × Lp spec_l1Bytes.sg.Out) := [(3, ⟨[.i, .i, .l (.int .u8)], fun x => (fun x0 x1 x2 => ⟨[(0, .v false [.int .i64 x0]), (5, .v false [.arr 0]), (6, .v false [.int .i64 x1])], [(0, .arr (.int .u8) true false x2)], []⟩) x.1 x.2.1 x.2.2.1, fun C n x => spec_l1Bytes.l3 k (fun y => C (.exit 0) ((fun y0 => ⟨[(5, .v false [.arr 0])], [(0, .arr (.int .u8) true false y0)], []⟩) y.1)) n x.1 x.2.1 x.2.2.1⟩)]
theorem spec_l1Bytes.loops (k : Nat) : LoopsOk spec_l1Bytes.E k spec_l1Bytes.hd (spec_l1Bytes.lps k) (loopsOf (Go.Proofs.Try.f40.body.getD .skip)) := ⟨⟨fun _ _ => rfl, fun _ _ _ => by kernel_rfl, fun _ => ⟨rfl, rfl⟩⟩, trivial⟩
theorem spec_l1Bytes.den (k : Nat) (x : Sig.In spec_l1Bytes.sg.ps) : denFn spec_l1Bytes.E k Go.Proofs.Try.f40 spec_l1Bytes.sg spec_l1Bytes.hd (runL k spec_l1Bytes.hd (spec_l1Bytes.lps k)) x = spec_l1Bytes.F k x := by kernel_rfl
theorem spec_l1Bytes.ok (k : Nat) : Contract Try.prog 40 spec_l1Bytes.sg (spec_l1Bytes.F k) := ok_of (E := spec_l1Bytes.E) (tysOk _ _) (eqsOk _) trivial Try.func40 rfl (by kernel_rfl) (spec_l1Bytes.loops k) (spec_l1Bytes.den k)
def spec_l3Prefixes.sg : Sig := ⟨[.b (.sl kPrefix)], [((.sl (.int .u8)), .fl)]⟩
def spec_l3Prefixes.E : Env := ⟨tys, bys, [(40, ⟨spec_l1Bytes.sg, spec_l1Bytes.F⟩)], eqs⟩
def spec_l3Prefixes.l3 {ρ : Type} (k : Nat) (c0 : (List Int × Unit) → Option ρ) : Nat → List (Int × (Int × Unit)) → Int → List Int → Option ρ
  | 0 => fun _ _ _ => none
  | n + 1 => fun x0 x1 x2 => 
    bif (decide ((x1 < (((List.length x0) : Nat) : Int)))) then
    (bif (Go.Dn.inB x1 (((List.length x0) : Nat) : Int)) then
      (Go.Dn.share (List.getD x0 (Int.toNat x1) ((0 : Int), ((0 : Int), ()))) fun s0 =>
        (spec_l1Bytes.F k (s0.1, (2 : Int), ())).bind fun y1 =>
        bif (Go.Dn.roomy ((List.length x2) + (List.length y1.1.1)) 1) then
        (Go.Dn.share (x2 ++ y1.1.1) fun s2 =>
          bif (Go.Dn.inB x1 (((List.length x0) : Nat) : Int)) then
          (Go.Dn.share (List.getD x0 (Int.toNat x1) ((0 : Int), ((0 : Int), ()))) fun s3 =>
            bif (Go.Dn.roomy ((List.length s2) + (List.length [(IntKind.wrap .u8 s3.2.1)])) 1) then
            (Go.Dn.share (s2 ++ [(IntKind.wrap .u8 s3.2.1)]) fun s4 =>
              spec_l3Prefixes.l3 k c0 n x0 (IntKind.wrap .i64 (x1 + (1 : Int))) s4)
            else none)
          else none)
        else none)
      else none)
    else c0 (x2, ())
def spec_l3Prefixes.F (k : Nat) (x : ((List (Int × (Int × Unit))) × Unit)) : Option (((List Int) × Unit) × Unit) :=
  spec_l3Prefixes.l3 k (fun e5 =>
    some (e5, ())) k x.1 (0 : Int) ([] : List Int)
def spec_l3Prefixes.hd : Hints := ⟨[(3, ⟨[0, 3, 4], []⟩)], [(0, [3]), (1, [0, 3, 4])], [2], [0, 3, 4], [(5, [0, 0, 0, 6, 14, 30, 62, 127, 0, 0, 768, 1792, 3840, 7936, 16128, 32767, 65535])]⟩
def spec_l3Prefixes.lps (k : Nat) : List (Nat × Lp spec_l3Prefixes.sg.Out) := [(3, ⟨[.l kPrefix, .i, .l (.int .u8)], fun x => (fun x0 x1 x2 => ⟨[(0, .v false [.fz kPrefix x0]), (3, .v false [.arr 0]), (4, .v false [.int .i64 x1])], [(0, .arr (.int .u8) true false x2)], []⟩) x.1 x.2.1 x.2.2.1, fun C n x => spec_l3Prefixes.l3 k (fun y => C (.exit 0) ((fun y0 => ⟨[(3, .v false [.arr 0])], [(0, .arr (.int .u8) true false y0)], []⟩) y.1)) n x.1 x.2.1 x.2.2.1⟩)]
theorem spec_l3Prefixes.loops (k : Nat) : LoopsOk spec_l3Prefixes.E k spec_l3Prefixes.hd (spec_l3Prefixes.lps k) (loopsOf (Go.Proofs.Try.f62.body.getD .skip)) := ⟨⟨fun _ _ => rfl, fun _ _ _ => by kernel_rfl, fun _ => ⟨rfl, rfl⟩⟩, trivial⟩
theorem spec_l3Prefixes.den (k : Nat) (x : Sig.In spec_l3Prefixes.sg.ps) : denFn spec_l3Prefixes.E k Go.Proofs.Try.f62 spec_l3Prefixes.sg spec_l3Prefixes.hd (runL k spec_l3Prefixes.hd (spec_l3Prefixes.lps k)) x = spec_l3Prefixes.F k x := by kernel_rfl
theorem spec_l3Prefixes.ok (k : Nat) : Contract Try.prog 62 spec_l3Prefixes.sg (spec_l3Prefixes.F k) := ok_of (E := spec_l3Prefixes.E) (tysOk _ _) (eqsOk _) ⟨spec_l1Bytes.ok k, trivial⟩ Try.func62 rfl (by kernel_rfl) (spec_l3Prefixes.loops k) (spec_l3Prefixes.den k)
def spec_l3Pack.sg : Sig := ⟨[.b kUpdate], [((.sl (.int .u8)), .fl)]⟩
def spec_l3Pack.E : Env := ⟨tys, bys, [(40, ⟨spec_l1Bytes.sg, spec_l1Bytes.F⟩), (62, ⟨spec_l3Prefixes.sg, spec_l3Prefixes.F⟩)], eqs⟩
def spec_l3Pack.l6 {ρ : Type} (k : Nat) (c0 : (List (Int × (Int × Unit)) × (Bool × (Int × (List Int × (Int × (Int × (Int × (List (Int × (Int × Unit)) × (List Int × Unit))))))))) → Option ρ) : Nat → Int → List (Int × (Int × Unit)) → Bool → Int → List Int → Int → Int → Int → List (Int × (Int × Unit)) → List Int → Option ρ
  | 0 => fun _ _ _ _ _ _ _ _ _ _ => none
  | n + 1 => fun x0 x1 x2 x3 x4 x5 x6 x7 x8 x9 => 
    bif (decide ((x0 < (((List.length x4) : Nat) : Int)))) then
    (bif (Go.Dn.inB x0 (((List.length x4) : Nat) : Int)) then
      (Go.Dn.share (List.getD x4 (Int.toNat x0) (0 : Int)) fun s3 =>
        (spec_l1Bytes.F k (s3, (2 : Int), ())).bind fun y4 =>
        bif (Go.Dn.roomy ((List.length x9) + (List.length y4.1.1)) 1) then
        (Go.Dn.share (x9 ++ y4.1.1) fun s5 =>
          spec_l3Pack.l6 k c0 n (IntKind.wrap .i64 (x0 + (1 : Int))) x1 x2 x3 x4 x5 x6 x7 x8 s5)
        else none)
      else none)
    else c0 (x1, x2, x3, x4, x5, x6, x7, x8, x9, ())
def spec_l3Pack.F (k : Nat) (x : (((List (Int × (Int × Unit))) × (Bool × ((Int × ((List Int) × (Int × (Int × (Int × Unit))))) × ((List (Int × (Int × Unit))) × Unit)))) × Unit)) : Option (((List Int) × Unit) × Unit) :=
  (spec_l3Prefixes.F k (x.1.1, ())).bind fun y0 =>
  bif (Go.Dn.roomy ((List.length [(IntKind.wrap .u8 (((List.length x.1.1) : Nat) : Int))]) + (List.length y0.1.1)) 1) then
  (Go.Dn.share ([(IntKind.wrap .u8 (((List.length x.1.1) : Nat) : Int))] ++ y0.1.1) fun s1 =>
    bif (!x.1.2.1) then
    (some ((s1, ()), ()))
    else bif (Go.Dn.roomy ((List.length s1) + (List.length [(IntKind.wrap .u8 (((List.length x.1.2.2.1.2.1) : Nat) : Int))])) 1) then
      (Go.Dn.share (s1 ++ [(IntKind.wrap .u8 (((List.length x.1.2.2.1.2.1) : Nat) : Int))]) fun s2 =>
        spec_l3Pack.l6 k (fun e6 =>
          bif (Go.Dn.roomy ((List.length e6.2.2.2.2.2.2.2.2.1) + (List.length [(IntKind.wrap .u8 e6.2.2.1)])) 1) then
          (Go.Dn.share (e6.2.2.2.2.2.2.2.2.1 ++ [(IntKind.wrap .u8 e6.2.2.1)]) fun s7 =>
            (spec_l1Bytes.F k (e6.2.2.2.2.1, (2 : Int), ())).bind fun y8 =>
            bif (Go.Dn.roomy ((List.length s7) + (List.length y8.1.1)) 1) then
            (Go.Dn.share (s7 ++ y8.1.1) fun s9 =>
              (spec_l1Bytes.F k (e6.2.2.2.2.2.1, (2 : Int), ())).bind fun y10 =>
              bif (Go.Dn.roomy ((List.length s9) + (List.length y10.1.1)) 1) then
              (Go.Dn.share (s9 ++ y10.1.1) fun s11 =>
                (spec_l1Bytes.F k (e6.2.2.2.2.2.2.1, (2 : Int), ())).bind fun y12 =>
                bif (Go.Dn.roomy ((List.length s11) + (List.length y12.1.1)) 1) then
                (Go.Dn.share (s11 ++ y12.1.1) fun s13 =>
                  (spec_l3Prefixes.F k (e6.2.2.2.2.2.2.2.1, ())).bind fun y14 =>
                  bif (Go.Dn.roomy ((List.length s13) + (List.length y14.1.1)) 1) then
                  (Go.Dn.share (s13 ++ y14.1.1) fun s15 =>
                    some ((s15, ()), ()))
                  else none)
                else none)
              else none)
            else none)
          else none) k (0 : Int) x.1.1 x.1.2.1 x.1.2.2.1.1 x.1.2.2.1.2.1 x.1.2.2.1.2.2.1 x.1.2.2.1.2.2.2.1 x.1.2.2.1.2.2.2.2.1 x.1.2.2.2.1 s2)
      else none)
  else none
def spec_l3Pack.hd : Hints := ⟨[(6, ⟨[1, 3, 4], []⟩)], [(0, [1, 3]), (1, [1, 3, 4])], [2], [0, 1, 3, 4], [(1, [0, 1, 3, 7, 15, 0, 32, 96, 255, 511]), (10, [0, 0, 2, 6, 14, 31, 0, 64, 192, 511, 1023, 0, 2048, 6144, 16383, 32767, 65535])]⟩
def spec_l3Pack.lps (k : Nat) : List (Nat × Lp spec_l3Pack.sg.Out) := [(6, ⟨[.i, .l kPrefix, .b, .i, .l (.int .i64), .i, .i, .i, .l kPrefix, .l (.int .u8)], fun x => (fun x0 x1 x2 x3 x4 x5 x6 x7 x8 x9 => ⟨[(1, .v false [.box 0 0]), (3, .v false [.arr 2]), (4, .v false [.int .i64 x0])], [(0, .box [.fz kPrefix x1, .bool x2, .int .i64 x3, .fz (.int .i64) x4, .int .i64 x5, .int .i64 x6, .int .i64 x7, .fz kPrefix x8]), (2, .arr (.int .u8) true false x9)], []⟩) x.1 x.2.1 x.2.2.1 x.2.2.2.1 x.2.2.2.2.1 x.2.2.2.2.2.1 x.2.2.2.2.2.2.1 x.2.2.2.2.2.2.2.1 x.2.2.2.2.2.2.2.2.1 x.2.2.2.2.2.2.2.2.2.1, fun C n x => spec_l3Pack.l6 k (fun y => C (.exit 0) ((fun y0 y1 y2 y3 y4 y5 y6 y7 y8 => ⟨[(1, .v false [.box 0 0]), (3, .v false [.arr 2])], [(0, .box [.fz kPrefix y0, .bool y1, .int .i64 y2, .fz (.int .i64) y3, .int .i64 y4, .int .i64 y5, .int .i64 y6, .fz kPrefix y7]), (2, .arr (.int .u8) true false y8)], []⟩) y.1 y.2.1 y.2.2.1 y.2.2.2.1 y.2.2.2.2.1 y.2.2.2.2.2.1 y.2.2.2.2.2.2.1 y.2.2.2.2.2.2.2.1 y.2.2.2.2.2.2.2.2.1)) n x.1 x.2.1 x.2.2.1 x.2.2.2.1 x.2.2.2.2.1 x.2.2.2.2.2.1 x.2.2.2.2.2.2.1 x.2.2.2.2.2.2.2.1 x.2.2.2.2.2.2.2.2.1 x.2.2.2.2.2.2.2.2.2.1⟩)]
theorem spec_l3Pack.loops (k : Nat) : LoopsOk spec_l3Pack.E k spec_l3Pack.hd (spec_l3Pack.lps k) (loopsOf (Go.Proofs.Try.f41.body.getD .skip)) := ⟨⟨fun _ _ => rfl, fun _ _ _ => by kernel_rfl, fun _ => ⟨rfl, rfl⟩⟩, trivial⟩
theorem spec_l3Pack.den (k : Nat) (x : Sig.In spec_l3Pack.sg.ps) : denFn spec_l3Pack.E k Go.Proofs.Try.f41 spec_l3Pack.sg spec_l3Pack.hd (runL k spec_l3Pack.hd (spec_l3Pack.lps k)) x = spec_l3Pack.F k x := by kernel_rfl
theorem spec_l3Pack.ok (k : Nat) : Contract Try.prog 41 spec_l3Pack.sg (spec_l3Pack.F k) := ok_of (E := spec_l3Pack.E) (tysOk _ _) (eqsOk _) ⟨spec_l1Bytes.ok k, spec_l3Prefixes.ok k, trivial⟩ Try.func41 rfl (by kernel_rfl) (spec_l3Pack.loops k) (spec_l3Pack.den k)
def spec_l1Pack.sg : Sig := ⟨[.b kBytesResult], [((.sl (.int .u8)), .fl)]⟩
def spec_l1Pack.E : Env := ⟨tys, bys, [(40, ⟨spec_l1Bytes.sg, spec_l1Bytes.F⟩)], eqs⟩
def spec_l1Pack.F (k : Nat) (x : ((Int × ((List Int) × Unit)) × Unit)) : Option (((List Int) × Unit) × Unit) :=
  (spec_l1Bytes.F k ((IntKind.wrap .i64 ((((List.length x.1.2.1) : Nat) : Int) + (5 : Int))), (2 : Int), ())).bind fun y0 =>
  bif (Go.Dn.roomy ((List.length [(255 : Int), (255 : Int)]) + (List.length y0.1.1)) 1) then
  (Go.Dn.share ([(255 : Int), (255 : Int)] ++ y0.1.1) fun s1 =>
    bif (Go.Dn.roomy ((List.length s1) + (List.length [(IntKind.wrap .u8 x.1.1)])) 1) then
    (Go.Dn.share (s1 ++ [(IntKind.wrap .u8 x.1.1)]) fun s2 =>
      bif (Go.Dn.roomy ((List.length s2) + (List.length x.1.2.1)) 1) then
      (Go.Dn.share (s2 ++ x.1.2.1) fun s3 =>
        some ((s3, ()), ()))
      else none)
    else none)
  else none
def spec_l1Pack.hd : Hints := ⟨[], [], [2], [0, 1, 3], [(2, [0, 0, 2, 6, 14, 31, 0, 64, 255, 511])]⟩
def spec_l1Pack.lps (k : Nat) : List (Nat × Lp spec_l1Pack.sg.Out) := []
theorem spec_l1Pack.loops (k : Nat) : LoopsOk spec_l1Pack.E k spec_l1Pack.hd (spec_l1Pack.lps k) (loopsOf (Go.Proofs.Try.f42.body.getD .skip)) := trivial
theorem spec_l1Pack.den (k : Nat) (x : Sig.In spec_l1Pack.sg.ps) : denFn spec_l1Pack.E k Go.Proofs.Try.f42 spec_l1Pack.sg spec_l1Pack.hd (runL k spec_l1Pack.hd (spec_l1Pack.lps k)) x = spec_l1Pack.F k x := by kernel_rfl
theorem spec_l1Pack.ok (k : Nat) : Contract Try.prog 42 spec_l1Pack.sg (spec_l1Pack.F k) := ok_of (E := spec_l1Pack.E) (tysOk _ _) (eqsOk _) ⟨spec_l1Bytes.ok k, trivial⟩ Try.func42 rfl (by kernel_rfl) (spec_l1Pack.loops k) (spec_l1Pack.den k)
def spec_l4Pack.sg : Sig := ⟨[.b kMessage], [((.sl (.int .u8)), .fl)]⟩
def spec_l4Pack.E : Env := ⟨tys, bys, [(40, ⟨spec_l1Bytes.sg, spec_l1Bytes.F⟩), (41, ⟨spec_l3Pack.sg, spec_l3Pack.F⟩), (42, ⟨spec_l1Pack.sg, spec_l1Pack.F⟩)], eqs⟩
def spec_l4Pack.F (k : Nat) (x : ((Int × (Int × (Int × (Int × (Int × (Int × (((List (Int × (Int × Unit))) × (Bool × ((Int × ((List Int) × (Int × (Int × (Int × Unit))))) × ((List (Int × (Int × Unit))) × Unit)))) × Unit))))))) × Unit)) : Option (((List Int) × Unit) × Unit) :=
  bif (x.1.1 == (1 : Int)) then
  ((spec_l1Bytes.F k (x.1.2.1, (2 : Int), ())).bind fun y0 =>
    bif (Go.Dn.roomy ((List.length ([] : List Int)) + (List.length y0.1.1)) 1) then
    (Go.Dn.share (([] : List Int) ++ y0.1.1) fun s1 =>
      bif (Go.Dn.roomy ((List.length s1) + (List.length [(IntKind.wrap .u8 x.1.2.2.1)])) 1) then
      (Go.Dn.share (s1 ++ [(IntKind.wrap .u8 x.1.2.2.1)]) fun s2 =>
        (spec_l1Bytes.F k (x.1.2.2.2.1, (2 : Int), ())).bind fun y3 =>
        bif (Go.Dn.roomy ((List.length s2) + (List.length y3.1.1)) 1) then
        (Go.Dn.share (s2 ++ y3.1.1) fun s4 =>
          (spec_l1Pack.F k ((x.1.1, s4, ()), ())).bind fun y5 =>
          some y5)
        else none)
      else none)
    else none)
  else bif (x.1.1 == (3 : Int)) then
    (Go.Dn.share (([] : List Int) ++ [(IntKind.wrap .u8 x.1.2.2.2.2.1), (IntKind.wrap .u8 x.1.2.2.2.2.2.1)]) fun s6 =>
      (spec_l1Pack.F k ((x.1.1, s6, ()), ())).bind fun y7 =>
      some y7)
    else bif (x.1.1 == (2 : Int)) then
      ((spec_l3Pack.F k x.1.2.2.2.2.2.2).bind fun y8 =>
        (spec_l1Pack.F k ((x.1.1, y8.1), ())).bind fun y9 =>
        some y9)
      else (spec_l1Pack.F k ((x.1.1, ([] : List Int), ()), ())).bind fun y10 =>
        some y10
def spec_l4Pack.hd : Hints := ⟨[], [(0, [1, 3])], [2], [0, 1, 3, 6], [(4, [0, 0, 2, 6, 15, 0, 32, 96, 224, 511, 0, 1024, 4095, 8191, 16383])]⟩
def spec_l4Pack.lps (k : Nat) : List (Nat × Lp spec_l4Pack.sg.Out) := []
theorem spec_l4Pack.loops (k : Nat) : LoopsOk spec_l4Pack.E k spec_l4Pack.hd (spec_l4Pack.lps k) (loopsOf (Go.Proofs.Try.f25.body.getD .skip)) := trivial
theorem spec_l4Pack.den (k : Nat) (x : Sig.In spec_l4Pack.sg.ps) : denFn spec_l4Pack.E k Go.Proofs.Try.f25 spec_l4Pack.sg spec_l4Pack.hd (runL k spec_l4Pack.hd (spec_l4Pack.lps k)) x = spec_l4Pack.F k x := by kernel_rfl
theorem spec_l4Pack.ok (k : Nat) : Contract Try.prog 25 spec_l4Pack.sg (spec_l4Pack.F k) := ok_of (E := spec_l4Pack.E) (tysOk _ _) (eqsOk _) ⟨spec_l1Bytes.ok k, spec_l3Pack.ok k, spec_l1Pack.ok k, trivial⟩ Try.func25 rfl (by kernel_rfl) (spec_l4Pack.loops k) (spec_l4Pack.den k)
def spec_PackMessage.sg : Sig := ⟨[.b kMessage], [(kBytesResult, .fl)]⟩
def spec_PackMessage.E : Env := ⟨tys, bys, [(24, ⟨spec_MessageFault.sg, spec_MessageFault.F⟩), (25, ⟨spec_l4Pack.sg, spec_l4Pack.F⟩)], eqs⟩
def spec_PackMessage.F (k : Nat) (x : ((Int × (Int × (Int × (Int × (Int × (Int × (((List (Int × (Int × Unit))) × (Bool × ((Int × ((List Int) × (Int × (Int × (Int × Unit))))) × ((List (Int × (Int × Unit))) × Unit)))) × Unit))))))) × Unit)) : Option (((Int × ((List Int) × Unit)) × Unit) × Unit) :=
  (spec_MessageFault.F k x).bind fun y0 =>
  bif (y0.1.1 != (0 : Int)) then
  (some (((y0.1.1, ([] : List Int), ()), ()), ()))
  else (spec_l4Pack.F k x).bind fun y1 =>
    some ((((0 : Int), y1.1), ()), ())
def spec_PackMessage.hd : Hints := ⟨[], [], [2], [0, 1, 2, 3], []⟩
def spec_PackMessage.lps (k : Nat) : List (Nat × Lp spec_PackMessage.sg.Out) := []
theorem spec_PackMessage.loops (k : Nat) : LoopsOk spec_PackMessage.E k spec_PackMessage.hd (spec_PackMessage.lps k) (loopsOf (Go.Proofs.Try.f14.body.getD .skip)) := trivial
theorem spec_PackMessage.den (k : Nat) (x : Sig.In spec_PackMessage.sg.ps) : denFn spec_PackMessage.E k Go.Proofs.Try.f14 spec_PackMessage.sg spec_PackMessage.hd (runL k spec_PackMessage.hd (spec_PackMessage.lps k)) x = spec_PackMessage.F k x := by kernel_rfl
theorem spec_PackMessage.ok (k : Nat) : Contract Try.prog 14 spec_PackMessage.sg (spec_PackMessage.F k) := ok_of (E := spec_PackMessage.E) (tysOk _ _) (eqsOk _) ⟨spec_MessageFault.ok k, spec_l4Pack.ok k, trivial⟩ Try.func14 rfl (by kernel_rfl) (spec_PackMessage.loops k) (spec_PackMessage.den k)
def spec_SayText.sg : Sig := ⟨[.b kMessage], [(kBytesResult, .fl)]⟩
def spec_SayText.E : Env := ⟨tys, bys, [(14, ⟨spec_PackMessage.sg, spec_PackMessage.F⟩)], eqs⟩
def spec_SayText.F (k : Nat) (x : ((Int × (Int × (Int × (Int × (Int × (Int × (((List (Int × (Int × Unit))) × (Bool × ((Int × ((List Int) × (Int × (Int × (Int × Unit))))) × ((List (Int × (Int × Unit))) × Unit)))) × Unit))))))) × Unit)) : Option (((Int × ((List Int) × Unit)) × Unit) × Unit) :=
  (spec_PackMessage.F k x).bind fun y0 =>
  some y0
def spec_SayText.hd : Hints := ⟨[], [], [2], [0, 1, 2], []⟩
def spec_SayText.lps (k : Nat) : List (Nat × Lp spec_SayText.sg.Out) := []
theorem spec_SayText.loops (k : Nat) : LoopsOk spec_SayText.E k spec_SayText.hd (spec_SayText.lps k) (loopsOf (Go.Proofs.Try.f5.body.getD .skip)) := trivial
theorem spec_SayText.den (k : Nat) (x : Sig.In spec_SayText.sg.ps) : denFn spec_SayText.E k Go.Proofs.Try.f5 spec_SayText.sg spec_SayText.hd (runL k spec_SayText.hd (spec_SayText.lps k)) x = spec_SayText.F k x := by kernel_rfl
theorem spec_SayText.ok (k : Nat) : Contract Try.prog 5 spec_SayText.sg (spec_SayText.F k) := ok_of (E := spec_SayText.E) (tysOk _ _) (eqsOk _) ⟨spec_PackMessage.ok k, trivial⟩ Try.func5 rfl (by kernel_rfl) (spec_SayText.loops k) (spec_SayText.den k)
def laws_toPrefix.sg : Sig := ⟨[.b kPrefix], [(kPrefix, .rd)]⟩
def laws_toPrefix.E : Env := ⟨tys, bys, [], eqs⟩
def laws_toPrefix.F (k : Nat) (x : ((Int × (Int × Unit)) × Unit)) : Option (((Int × (Int × Unit)) × Unit) × Unit) :=
  some (x, ())
def laws_toPrefix.hd : Hints := ⟨[], [], [2], [0, 1, 2, 3], []⟩
def laws_toPrefix.lps (k : Nat) : List (Nat × Lp laws_toPrefix.sg.Out) := []
theorem laws_toPrefix.loops (k : Nat) : LoopsOk laws_toPrefix.E k laws_toPrefix.hd (laws_toPrefix.lps k) (loopsOf (Go.Proofs.Try.f43.body.getD .skip)) := trivial
theorem laws_toPrefix.den (k : Nat) (x : Sig.In laws_toPrefix.sg.ps) : denFn laws_toPrefix.E k Go.Proofs.Try.f43 laws_toPrefix.sg laws_toPrefix.hd (runL k laws_toPrefix.hd (laws_toPrefix.lps k)) x = laws_toPrefix.F k x := by kernel_rfl
theorem laws_toPrefix.ok (k : Nat) : Contract Try.prog 43 laws_toPrefix.sg (laws_toPrefix.F k) := ok_of (E := laws_toPrefix.E) (tysOk _ _) (eqsOk _) trivial Try.func43 rfl (by kernel_rfl) (laws_toPrefix.loops k) (laws_toPrefix.den k)
def laws_toPrefixS.sg : Sig := ⟨[.b (.sl kPrefix)], [((.sl kPrefix), .dp)]⟩
def laws_toPrefixS.E : Env := ⟨tys, bys, [(43, ⟨laws_toPrefix.sg, laws_toPrefix.F⟩)], eqs⟩
def laws_toPrefixS.l3 {ρ : Type} (k : Nat) (c0 : (List (Int × (Int × Unit)) × Unit) → Option ρ) : Nat → List (Int × (Int × Unit)) → Int → List (Int × (Int × Unit)) → Option ρ
  | 0 => fun _ _ _ => none
  | n + 1 => fun x0 x1 x2 => 
    bif (decide ((x1 < (((List.length x0) : Nat) : Int)))) then
    (bif (Go.Dn.inB x1 (((List.length x0) : Nat) : Int)) then
      (Go.Dn.share (List.getD x0 (Int.toNat x1) ((0 : Int), ((0 : Int), ()))) fun s0 =>
        (laws_toPrefix.F k (s0, ())).bind fun y1 =>
        bif (Go.Dn.inB x1 (((List.length x2) : Nat) : Int)) then
        (Go.Dn.share (List.set x2 (Int.toNat x1) (y1.1.1.1, y1.1.1.2.1, (List.getD x2 (Int.toNat x1) ((0 : Int), ((0 : Int), ()))).2.2)) fun s2 =>
          laws_toPrefixS.l3 k c0 n x0 (IntKind.wrap .i64 (x1 + (1 : Int))) s2)
        else none)
      else none)
    else c0 (x2, ())
def laws_toPrefixS.F (k : Nat) (x : ((List (Int × (Int × Unit))) × Unit)) : Option (((List (Int × (Int × Unit))) × Unit) × Unit) :=
  bif (decide (((((List.length x.1) : Nat) : Int) ≤ (((List.length x.1) : Nat) : Int)))) then
  (bif (Go.Dn.roomy (Int.toNat (((List.length x.1) : Nat) : Int)) 16) then
    (laws_toPrefixS.l3 k (fun e3 =>
        some (e3, ())) k x.1 (0 : Int) (List.replicate (Int.toNat (((List.length x.1) : Nat) : Int)) ((0 : Int), ((0 : Int), ()))))
    else none)
  else none
def laws_toPrefixS.hd : Hints := ⟨[(3, ⟨[0, 3, 4], []⟩)], [(0, [3]), (1, [0, 3, 4])], [2], [0, 3, 4], []⟩
def laws_toPrefixS.lps (k : Nat) : List (Nat × Lp laws_toPrefixS.sg.Out) := [(3, ⟨[.l kPrefix, .i, .l kPrefix], fun x => (fun x0 x1 x2 => ⟨[(0, .v false [.fz kPrefix x0]), (3, .v false [.arr 0]), (4, .v false [.int .i64 x1])], [(0, .arr kPrefix true false x2)], []⟩) x.1 x.2.1 x.2.2.1, fun C n x => laws_toPrefixS.l3 k (fun y => C (.exit 0) ((fun y0 => ⟨[(3, .v false [.arr 0])], [(0, .arr kPrefix true false y0)], []⟩) y.1)) n x.1 x.2.1 x.2.2.1⟩)]
theorem laws_toPrefixS.loops (k : Nat) : LoopsOk laws_toPrefixS.E k laws_toPrefixS.hd (laws_toPrefixS.lps k) (loopsOf (Go.Proofs.Try.f26.body.getD .skip)) := ⟨⟨fun _ _ => rfl, fun _ _ _ => by kernel_rfl, fun _ => ⟨rfl, rfl⟩⟩, trivial⟩
theorem laws_toPrefixS.den (k : Nat) (x : Sig.In laws_toPrefixS.sg.ps) : denFn laws_toPrefixS.E k Go.Proofs.Try.f26 laws_toPrefixS.sg laws_toPrefixS.hd (runL k laws_toPrefixS.hd (laws_toPrefixS.lps k)) x = laws_toPrefixS.F k x := by kernel_rfl
theorem laws_toPrefixS.ok (k : Nat) : Contract Try.prog 26 laws_toPrefixS.sg (laws_toPrefixS.F k) := ok_of (E := laws_toPrefixS.E) (tysOk _ _) (eqsOk _) ⟨laws_toPrefix.ok k, trivial⟩ Try.func26 rfl (by kernel_rfl) (laws_toPrefixS.loops k) (laws_toPrefixS.den k)
def laws_toInt64S.sg : Sig := ⟨[.b (.sl (.int .i64))], [((.sl (.int .i64)), .dp)]⟩
def laws_toInt64S.E : Env := ⟨tys, bys, [], eqs⟩
def laws_toInt64S.l3 {ρ : Type} (k : Nat) (c0 : (List Int × Unit) → Option ρ) : Nat → List Int → Int → List Int → Option ρ
  | 0 => fun _ _ _ => none
  | n + 1 => fun x0 x1 x2 => 
    bif (decide ((x1 < (((List.length x0) : Nat) : Int)))) then
    (bif (Go.Dn.inB x1 (((List.length x0) : Nat) : Int)) then
      (Go.Dn.share (List.getD x0 (Int.toNat x1) (0 : Int)) fun s0 =>
        bif (Go.Dn.inB x1 (((List.length x2) : Nat) : Int)) then
        (Go.Dn.share (List.set x2 (Int.toNat x1) s0) fun s1 =>
          laws_toInt64S.l3 k c0 n x0 (IntKind.wrap .i64 (x1 + (1 : Int))) s1)
        else none)
      else none)
    else c0 (x2, ())
def laws_toInt64S.F (k : Nat) (x : ((List Int) × Unit)) : Option (((List Int) × Unit) × Unit) :=
  bif (decide (((((List.length x.1) : Nat) : Int) ≤ (((List.length x.1) : Nat) : Int)))) then
  (bif (Go.Dn.roomy (Int.toNat (((List.length x.1) : Nat) : Int)) 8) then
    (laws_toInt64S.l3 k (fun e2 =>
        some (e2, ())) k x.1 (0 : Int) (List.replicate (Int.toNat (((List.length x.1) : Nat) : Int)) (0 : Int)))
    else none)
  else none
def laws_toInt64S.hd : Hints := ⟨[(3, ⟨[0, 3, 4], []⟩)], [(0, [3]), (1, [0, 3, 4])], [2], [0, 3, 4], []⟩
def laws_toInt64S.lps (k : Nat) : List (Nat × Lp laws_toInt64S.sg.Out) := [(3, ⟨[.l (.int .i64), .i, .l (.int .i64)], fun x => (fun x0 x1 x2 => ⟨[(0, .v false [.fz (.int .i64) x0]), (3, .v false [.arr 0]), (4, .v false [.int .i64 x1])], [(0, .arr (.int .i64) true false x2)], []⟩) x.1 x.2.1 x.2.2.1, fun C n x => laws_toInt64S.l3 k (fun y => C (.exit 0) ((fun y0 => ⟨[(3, .v false [.arr 0])], [(0, .arr (.int .i64) true false y0)], []⟩) y.1)) n x.1 x.2.1 x.2.2.1⟩)]
theorem laws_toInt64S.loops (k : Nat) : LoopsOk laws_toInt64S.E k laws_toInt64S.hd (laws_toInt64S.lps k) (loopsOf (Go.Proofs.Try.f44.body.getD .skip)) := ⟨⟨fun _ _ => rfl, fun _ _ _ => by kernel_rfl, fun _ => ⟨rfl, rfl⟩⟩, trivial⟩
theorem laws_toInt64S.den (k : Nat) (x : Sig.In laws_toInt64S.sg.ps) : denFn laws_toInt64S.E k Go.Proofs.Try.f44 laws_toInt64S.sg laws_toInt64S.hd (runL k laws_toInt64S.hd (laws_toInt64S.lps k)) x = laws_toInt64S.F k x := by kernel_rfl
theorem laws_toInt64S.ok (k : Nat) : Contract Try.prog 44 laws_toInt64S.sg (laws_toInt64S.F k) := ok_of (E := laws_toInt64S.E) (tysOk _ _) (eqsOk _) trivial Try.func44 rfl (by kernel_rfl) (laws_toInt64S.loops k) (laws_toInt64S.den k)
def laws_toAttrs.sg : Sig := ⟨[.b kAttrs], [(kAttrs, .dp)]⟩
def laws_toAttrs.E : Env := ⟨tys, bys, [(44, ⟨laws_toInt64S.sg, laws_toInt64S.F⟩)], eqs⟩
def laws_toAttrs.F (k : Nat) (x : ((Int × ((List Int) × (Int × (Int × (Int × Unit))))) × Unit)) : Option (((Int × ((List Int) × (Int × (Int × (Int × Unit))))) × Unit) × Unit) :=
  (laws_toInt64S.F k (x.1.2.1, ())).bind fun y0 =>
  some (((x.1.1, y0.1.1, x.1.2.2), ()), ())
def laws_toAttrs.hd : Hints := ⟨[], [], [2], [0, 1, 2, 3], []⟩
def laws_toAttrs.lps (k : Nat) : List (Nat × Lp laws_toAttrs.sg.Out) := []
theorem laws_toAttrs.loops (k : Nat) : LoopsOk laws_toAttrs.E k laws_toAttrs.hd (laws_toAttrs.lps k) (loopsOf (Go.Proofs.Try.f27.body.getD .skip)) := trivial
theorem laws_toAttrs.den (k : Nat) (x : Sig.In laws_toAttrs.sg.ps) : denFn laws_toAttrs.E k Go.Proofs.Try.f27 laws_toAttrs.sg laws_toAttrs.hd (runL k laws_toAttrs.hd (laws_toAttrs.lps k)) x = laws_toAttrs.F k x := by kernel_rfl
theorem laws_toAttrs.ok (k : Nat) : Contract Try.prog 27 laws_toAttrs.sg (laws_toAttrs.F k) := ok_of (E := laws_toAttrs.E) (tysOk _ _) (eqsOk _) ⟨laws_toInt64S.ok k, trivial⟩ Try.func27 rfl (by kernel_rfl) (laws_toAttrs.loops k) (laws_toAttrs.den k)
def laws_toUpdate.sg : Sig := ⟨[.b kUpdate], [(kUpdate, .dp)]⟩
def laws_toUpdate.E : Env := ⟨tys, bys, [(26, ⟨laws_toPrefixS.sg, laws_toPrefixS.F⟩), (27, ⟨laws_toAttrs.sg, laws_toAttrs.F⟩)], eqs⟩
def laws_toUpdate.F (k : Nat) (x : (((List (Int × (Int × Unit))) × (Bool × ((Int × ((List Int) × (Int × (Int × (Int × Unit))))) × ((List (Int × (Int × Unit))) × Unit)))) × Unit)) : Option ((((List (Int × (Int × Unit))) × (Bool × ((Int × ((List Int) × (Int × (Int × (Int × Unit))))) × ((List (Int × (Int × Unit))) × Unit)))) × Unit) × Unit) :=
  (laws_toPrefixS.F k (x.1.1, ())).bind fun y0 =>
  (laws_toAttrs.F k (x.1.2.2.1, ())).bind fun y1 =>
  (laws_toPrefixS.F k x.1.2.2.2).bind fun y2 =>
  some (((y0.1.1, x.1.2.1, y1.1.1, y2.1), ()), ())
def laws_toUpdate.hd : Hints := ⟨[], [], [2], [0, 1, 2, 3], []⟩
def laws_toUpdate.lps (k : Nat) : List (Nat × Lp laws_toUpdate.sg.Out) := []
theorem laws_toUpdate.loops (k : Nat) : LoopsOk laws_toUpdate.E k laws_toUpdate.hd (laws_toUpdate.lps k) (loopsOf (Go.Proofs.Try.f15.body.getD .skip)) := trivial
theorem laws_toUpdate.den (k : Nat) (x : Sig.In laws_toUpdate.sg.ps) : denFn laws_toUpdate.E k Go.Proofs.Try.f15 laws_toUpdate.sg laws_toUpdate.hd (runL k laws_toUpdate.hd (laws_toUpdate.lps k)) x = laws_toUpdate.F k x := by kernel_rfl
theorem laws_toUpdate.ok (k : Nat) : Contract Try.prog 15 laws_toUpdate.sg (laws_toUpdate.F k) := ok_of (E := laws_toUpdate.E) (tysOk _ _) (eqsOk _) ⟨laws_toPrefixS.ok k, laws_toAttrs.ok k, trivial⟩ Try.func15 rfl (by kernel_rfl) (laws_toUpdate.loops k) (laws_toUpdate.den k)
def laws_toMessage.sg : Sig := ⟨[.b kMessage], [(kMessage, .dp)]⟩
def laws_toMessage.E : Env := ⟨tys, bys, [(15, ⟨laws_toUpdate.sg, laws_toUpdate.F⟩)], eqs⟩
def laws_toMessage.F (k : Nat) (x : ((Int × (Int × (Int × (Int × (Int × (Int × (((List (Int × (Int × Unit))) × (Bool × ((Int × ((List Int) × (Int × (Int × (Int × Unit))))) × ((List (Int × (Int × Unit))) × Unit)))) × Unit))))))) × Unit)) : Option (((Int × (Int × (Int × (Int × (Int × (Int × (((List (Int × (Int × Unit))) × (Bool × ((Int × ((List Int) × (Int × (Int × (Int × Unit))))) × ((List (Int × (Int × Unit))) × Unit)))) × Unit))))))) × Unit) × Unit) :=
  (laws_toUpdate.F k x.1.2.2.2.2.2.2).bind fun y0 =>
  some (((x.1.1, x.1.2.1, x.1.2.2.1, x.1.2.2.2.1, x.1.2.2.2.2.1, x.1.2.2.2.2.2.1, y0.1), ()), ())
def laws_toMessage.hd : Hints := ⟨[], [], [2], [0, 1, 2, 3], []⟩
def laws_toMessage.lps (k : Nat) : List (Nat × Lp laws_toMessage.sg.Out) := []
theorem laws_toMessage.loops (k : Nat) : LoopsOk laws_toMessage.E k laws_toMessage.hd (laws_toMessage.lps k) (loopsOf (Go.Proofs.Try.f6.body.getD .skip)) := trivial
theorem laws_toMessage.den (k : Nat) (x : Sig.In laws_toMessage.sg.ps) : denFn laws_toMessage.E k Go.Proofs.Try.f6 laws_toMessage.sg laws_toMessage.hd (runL k laws_toMessage.hd (laws_toMessage.lps k)) x = laws_toMessage.F k x := by kernel_rfl
theorem laws_toMessage.ok (k : Nat) : Contract Try.prog 6 laws_toMessage.sg (laws_toMessage.F k) := ok_of (E := laws_toMessage.E) (tysOk _ _) (eqsOk _) ⟨laws_toUpdate.ok k, trivial⟩ Try.func6 rfl (by kernel_rfl) (laws_toMessage.loops k) (laws_toMessage.den k)
def impl_in.sg : Sig := ⟨[.b (.int .i64), .b (.int .i64), .b (.int .i64)], [(.bool, .rd)]⟩
def impl_in.E : Env := ⟨tys, bys, [], eqs⟩
def impl_in.F (k : Nat) (x : (Int × (Int × (Int × Unit)))) : Option ((Bool × Unit) × Unit) :=
  bif (decide ((x.1 ≥ x.2.1))) then
  (some (((decide ((x.1 ≤ x.2.2.1))), ()), ()))
  else some ((false, ()), ())
def impl_in.hd : Hints := ⟨[], [], [6], [0, 1, 2], []⟩
def impl_in.lps (k : Nat) : List (Nat × Lp impl_in.sg.Out) := []
theorem impl_in.loops (k : Nat) : LoopsOk impl_in.E k impl_in.hd (impl_in.lps k) (loopsOf (Go.Proofs.Try.f45.body.getD .skip)) := trivial
theorem impl_in.den (k : Nat) (x : Sig.In impl_in.sg.ps) : denFn impl_in.E k Go.Proofs.Try.f45 impl_in.sg impl_in.hd (runL k impl_in.hd (impl_in.lps k)) x = impl_in.F k x := by kernel_rfl
theorem impl_in.ok (k : Nat) : Contract Try.prog 45 impl_in.sg (impl_in.F k) := ok_of (E := impl_in.E) (tysOk _ _) (eqsOk _) trivial Try.func45 rfl (by kernel_rfl) (impl_in.loops k) (impl_in.den k)
def impl_isSystem.sg : Sig := ⟨[.b (.int .i64)], [(.bool, .rd)]⟩
def impl_isSystem.E : Env := ⟨tys, bys, [(45, ⟨impl_in.sg, impl_in.F⟩)], eqs⟩
def impl_isSystem.F (k : Nat) (x : (Int × Unit)) : Option ((Bool × Unit) × Unit) :=
  (impl_in.F k (x.1, (1 : Int), (65535 : Int), ())).bind fun y0 =>
  some y0
def impl_isSystem.hd : Hints := ⟨[], [], [2], [0], []⟩
def impl_isSystem.lps (k : Nat) : List (Nat × Lp impl_isSystem.sg.Out) := []
theorem impl_isSystem.loops (k : Nat) : LoopsOk impl_isSystem.E k impl_isSystem.hd (impl_isSystem.lps k) (loopsOf (Go.Proofs.Try.f46.body.getD .skip)) := trivial
theorem impl_isSystem.den (k : Nat) (x : Sig.In impl_isSystem.sg.ps) : denFn impl_isSystem.E k Go.Proofs.Try.f46 impl_isSystem.sg impl_isSystem.hd (runL k impl_isSystem.hd (impl_isSystem.lps k)) x = impl_isSystem.F k x := by kernel_rfl
theorem impl_isSystem.ok (k : Nat) : Contract Try.prog 46 impl_isSystem.sg (impl_isSystem.F k) := ok_of (E := impl_isSystem.E) (tysOk _ _) (eqsOk _) ⟨impl_in.ok k, trivial⟩ Try.func46 rfl (by kernel_rfl) (impl_isSystem.loops k) (impl_isSystem.den k)
def impl_isHold.sg : Sig := ⟨[.b (.int .i64)], [(.bool, .rd)]⟩
def impl_isHold.E : Env := ⟨tys, bys, [(45, ⟨impl_in.sg, impl_in.F⟩)], eqs⟩
def impl_isHold.F (k : Nat) (x : (Int × Unit)) : Option ((Bool × Unit) × Unit) :=
  bif (x.1 == (0 : Int)) then
  (some ((true, ()), ()))
  else (impl_in.F k (x.1, (3 : Int), (200 : Int), ())).bind fun y0 =>
    some y0
def impl_isHold.hd : Hints := ⟨[], [], [2], [0], []⟩
def impl_isHold.lps (k : Nat) : List (Nat × Lp impl_isHold.sg.Out) := []
theorem impl_isHold.loops (k : Nat) : LoopsOk impl_isHold.E k impl_isHold.hd (impl_isHold.lps k) (loopsOf (Go.Proofs.Try.f47.body.getD .skip)) := trivial
theorem impl_isHold.den (k : Nat) (x : Sig.In impl_isHold.sg.ps) : denFn impl_isHold.E k Go.Proofs.Try.f47 impl_isHold.sg impl_isHold.hd (runL k impl_isHold.hd (impl_isHold.lps k)) x = impl_isHold.F k x := by kernel_rfl
theorem impl_isHold.ok (k : Nat) : Contract Try.prog 47 impl_isHold.sg (impl_isHold.F k) := ok_of (E := impl_isHold.E) (tysOk _ _) (eqsOk _) ⟨impl_in.ok k, trivial⟩ Try.func47 rfl (by kernel_rfl) (impl_isHold.loops k) (impl_isHold.den k)
def impl_areReasons.sg : Sig := ⟨[.b (.int .i64), .b (.int .i64)], [(.bool, .rd)]⟩
def impl_areReasons.E : Env := ⟨tys, bys, [(45, ⟨impl_in.sg, impl_in.F⟩)], eqs⟩
def impl_areReasons.F (k : Nat) (x : (Int × (Int × Unit))) : Option ((Bool × Unit) × Unit) :=
  (impl_in.F k (x.1, (1 : Int), (6 : Int), ())).bind fun y0 =>
  bif y0.1.1 then
  ((impl_in.F k (x.2.1, (0 : Int), (20 : Int), ())).bind fun y1 =>
    some y1)
  else some ((false, ()), ())
def impl_areReasons.hd : Hints := ⟨[], [], [4], [0, 1], []⟩
def impl_areReasons.lps (k : Nat) : List (Nat × Lp impl_areReasons.sg.Out) := []
theorem impl_areReasons.loops (k : Nat) : LoopsOk impl_areReasons.E k impl_areReasons.hd (impl_areReasons.lps k) (loopsOf (Go.Proofs.Try.f48.body.getD .skip)) := trivial
theorem impl_areReasons.den (k : Nat) (x : Sig.In impl_areReasons.sg.ps) : denFn impl_areReasons.E k Go.Proofs.Try.f48 impl_areReasons.sg impl_areReasons.hd (runL k impl_areReasons.hd (impl_areReasons.lps k)) x = impl_areReasons.F k x := by kernel_rfl
theorem impl_areReasons.ok (k : Nat) : Contract Try.prog 48 impl_areReasons.sg (impl_areReasons.F k) := ok_of (E := impl_areReasons.E) (tysOk _ _) (eqsOk _) ⟨impl_in.ok k, trivial⟩ Try.func48 rfl (by kernel_rfl) (impl_areReasons.loops k) (impl_areReasons.den k)
def impl_Attrs_isZero.sg : Sig := ⟨[.b kAttrs], [(.bool, .rd)]⟩
def impl_Attrs_isZero.E : Env := ⟨tys, bys, [], eqs⟩
def impl_Attrs_isZero.F (k : Nat) (x : ((Int × ((List Int) × (Int × (Int × (Int × Unit))))) × Unit)) : Option ((Bool × Unit) × Unit) :=
  bif (x.1.1 == (0 : Int)) then
  (bif ((((List.length x.1.2.1) : Nat) : Int) == (0 : Int)) then
    (bif (x.1.2.2.1 == (0 : Int)) then
      (bif (x.1.2.2.2.1 == (0 : Int)) then
        (some (((x.1.2.2.2.2.1 == (0 : Int)), ()), ()))
        else some ((false, ()), ()))
      else some ((false, ()), ()))
    else some ((false, ()), ()))
  else some ((false, ()), ())
def impl_Attrs_isZero.hd : Hints := ⟨[], [], [2], [0, 1], []⟩
def impl_Attrs_isZero.lps (k : Nat) : List (Nat × Lp impl_Attrs_isZero.sg.Out) := []
theorem impl_Attrs_isZero.loops (k : Nat) : LoopsOk impl_Attrs_isZero.E k impl_Attrs_isZero.hd (impl_Attrs_isZero.lps k) (loopsOf (Go.Proofs.Try.f63.body.getD .skip)) := trivial
theorem impl_Attrs_isZero.den (k : Nat) (x : Sig.In impl_Attrs_isZero.sg.ps) : denFn impl_Attrs_isZero.E k Go.Proofs.Try.f63 impl_Attrs_isZero.sg impl_Attrs_isZero.hd (runL k impl_Attrs_isZero.hd (impl_Attrs_isZero.lps k)) x = impl_Attrs_isZero.F k x := by kernel_rfl
theorem impl_Attrs_isZero.ok (k : Nat) : Contract Try.prog 63 impl_Attrs_isZero.sg (impl_Attrs_isZero.F k) := ok_of (E := impl_Attrs_isZero.E) (tysOk _ _) (eqsOk _) trivial Try.func63 rfl (by kernel_rfl) (impl_Attrs_isZero.loops k) (impl_Attrs_isZero.den k)
def impl_Update_isZero.sg : Sig := ⟨[.b kUpdate], [(.bool, .rd)]⟩
def impl_Update_isZero.E : Env := ⟨tys, bys, [(63, ⟨impl_Attrs_isZero.sg, impl_Attrs_isZero.F⟩)], eqs⟩
def impl_Update_isZero.F (k : Nat) (x : (((List (Int × (Int × Unit))) × (Bool × ((Int × ((List Int) × (Int × (Int × (Int × Unit))))) × ((List (Int × (Int × Unit))) × Unit)))) × Unit)) : Option ((Bool × Unit) × Unit) :=
  bif ((((List.length x.1.1) : Nat) : Int) == (0 : Int)) then
  (bif (!x.1.2.1) then
    ((impl_Attrs_isZero.F k (x.1.2.2.1, ())).bind fun y0 =>
      bif y0.1.1 then
      (some ((((((List.length x.1.2.2.2.1) : Nat) : Int) == (0 : Int)), ()), ()))
      else some ((false, ()), ()))
    else some ((false, ()), ()))
  else some ((false, ()), ())
def impl_Update_isZero.hd : Hints := ⟨[], [], [2], [0, 1], []⟩
def impl_Update_isZero.lps (k : Nat) : List (Nat × Lp impl_Update_isZero.sg.Out) := []
theorem impl_Update_isZero.loops (k : Nat) : LoopsOk impl_Update_isZero.E k impl_Update_isZero.hd (impl_Update_isZero.lps k) (loopsOf (Go.Proofs.Try.f49.body.getD .skip)) := trivial
theorem impl_Update_isZero.den (k : Nat) (x : Sig.In impl_Update_isZero.sg.ps) : denFn impl_Update_isZero.E k Go.Proofs.Try.f49 impl_Update_isZero.sg impl_Update_isZero.hd (runL k impl_Update_isZero.hd (impl_Update_isZero.lps k)) x = impl_Update_isZero.F k x := by kernel_rfl
theorem impl_Update_isZero.ok (k : Nat) : Contract Try.prog 49 impl_Update_isZero.sg (impl_Update_isZero.F k) := ok_of (E := impl_Update_isZero.E) (tysOk _ _) (eqsOk _) ⟨impl_Attrs_isZero.ok k, trivial⟩ Try.func49 rfl (by kernel_rfl) (impl_Update_isZero.loops k) (impl_Update_isZero.den k)
def impl_isAddr.sg : Sig := ⟨[.b (.int .i64)], [(.bool, .rd)]⟩
def impl_isAddr.E : Env := ⟨tys, bys, [(45, ⟨impl_in.sg, impl_in.F⟩)], eqs⟩
def impl_isAddr.F (k : Nat) (x : (Int × Unit)) : Option ((Bool × Unit) × Unit) :=
  (impl_in.F k (x.1, (0 : Int), (65535 : Int), ())).bind fun y0 =>
  some y0
def impl_isAddr.hd : Hints := ⟨[], [], [2], [0], []⟩
def impl_isAddr.lps (k : Nat) : List (Nat × Lp impl_isAddr.sg.Out) := []
theorem impl_isAddr.loops (k : Nat) : LoopsOk impl_isAddr.E k impl_isAddr.hd (impl_isAddr.lps k) (loopsOf (Go.Proofs.Try.f73.body.getD .skip)) := trivial
theorem impl_isAddr.den (k : Nat) (x : Sig.In impl_isAddr.sg.ps) : denFn impl_isAddr.E k Go.Proofs.Try.f73 impl_isAddr.sg impl_isAddr.hd (runL k impl_isAddr.hd (impl_isAddr.lps k)) x = impl_isAddr.F k x := by kernel_rfl
theorem impl_isAddr.ok (k : Nat) : Contract Try.prog 73 impl_isAddr.sg (impl_isAddr.F k) := ok_of (E := impl_isAddr.E) (tysOk _ _) (eqsOk _) ⟨impl_in.ok k, trivial⟩ Try.func73 rfl (by kernel_rfl) (impl_isAddr.loops k) (impl_isAddr.den k)
def impl_PrefixFault.sg : Sig := ⟨[.b kPrefix], [((.int .i64), .rd)]⟩
def impl_PrefixFault.E : Env := ⟨tys, bys, [(45, ⟨impl_in.sg, impl_in.F⟩), (73, ⟨impl_isAddr.sg, impl_isAddr.F⟩)], eqs⟩
def impl_PrefixFault.F (k : Nat) (x : ((Int × (Int × Unit)) × Unit)) : Option ((Int × Unit) × Unit) :=
  (impl_isAddr.F k (x.1.1, ())).bind fun y0 =>
  bif (!y0.1.1) then
  (some (((3 : Int), ()), ()))
  else (impl_in.F k (x.1.2.1, (0 : Int), (16 : Int), ())).bind fun y1 =>
    bif (!y1.1.1) then
    (some (((3 : Int), ()), ()))
    else bif (decide (((IntKind.wrap .i64 ((16 : Int) - x.1.2.1)) < (0 : Int)))) then
      (none)
      else bif ((Go.Dn.andV .i64 x.1.1 (IntKind.wrap .i64 ((Go.Dn.shlV .i64 (1 : Int) (IntKind.wrap .i64 ((16 : Int) - x.1.2.1))) - (1 : Int)))) != (0 : Int)) then
        (some (((1 : Int), ()), ()))
        else some (((0 : Int), ()), ())
def impl_PrefixFault.hd : Hints := ⟨[], [(0, [])], [2], [0, 1], [(3, [0, 1, 0, 4, 12, 28, 60, 127, 255, 511])]⟩
def impl_PrefixFault.lps (k : Nat) : List (Nat × Lp impl_PrefixFault.sg.Out) := []
theorem impl_PrefixFault.loops (k : Nat) : LoopsOk impl_PrefixFault.E k impl_PrefixFault.hd (impl_PrefixFault.lps k) (loopsOf (Go.Proofs.Try.f71.body.getD .skip)) := trivial
theorem impl_PrefixFault.den (k : Nat) (x : Sig.In impl_PrefixFault.sg.ps) : denFn impl_PrefixFault.E k Go.Proofs.Try.f71 impl_PrefixFault.sg impl_PrefixFault.hd (runL k impl_PrefixFault.hd (impl_PrefixFault.lps k)) x = impl_PrefixFault.F k x := by kernel_rfl
theorem impl_PrefixFault.ok (k : Nat) : Contract Try.prog 71 impl_PrefixFault.sg (impl_PrefixFault.F k) := ok_of (E := impl_PrefixFault.E) (tysOk _ _) (eqsOk _) ⟨impl_in.ok k, impl_isAddr.ok k, trivial⟩ Try.func71 rfl (by kernel_rfl) (impl_PrefixFault.loops k) (impl_PrefixFault.den k)
def impl_prefixesFault.sg : Sig := ⟨[.b (.sl kPrefix)], [((.int .i64), .rd)]⟩
def impl_prefixesFault.E : Env := ⟨tys, bys, [(71, ⟨impl_PrefixFault.sg, impl_PrefixFault.F⟩)], eqs⟩
def impl_prefixesFault.l2 {ρ : Type} (k : Nat) (c0 : (Int × Unit) → Option ρ) (c1 : Unit → Option ρ) : Nat → List (Int × (Int × Unit)) → Int → Int → Option ρ
  | 0 => fun _ _ _ => none
  | n + 1 => fun x0 x1 x2 => 
    bif (decide ((x2 < x1))) then
    (bif (Go.Dn.inB x2 (((List.length x0) : Nat) : Int)) then
      (Go.Dn.share (List.getD x0 (Int.toNat x2) ((0 : Int), ((0 : Int), ()))) fun s0 =>
        (impl_PrefixFault.F k (s0, ())).bind fun y1 =>
        bif (y1.1.1 != (0 : Int)) then
        (c0 (y1.1.1, ()))
        else impl_prefixesFault.l2 k c0 c1 n x0 x1 (IntKind.wrap .i64 (x2 + (1 : Int))))
      else none)
    else c1 (())
def impl_prefixesFault.F (k : Nat) (x : ((List (Int × (Int × Unit))) × Unit)) : Option ((Int × Unit) × Unit) :=
  impl_prefixesFault.l2 k (fun e2 =>
    some (e2, ())) (fun e3 =>
    some (((0 : Int), ()), ())) k x.1 (((List.length x.1) : Nat) : Int) (0 : Int)
def impl_prefixesFault.hd : Hints := ⟨[(2, ⟨[6, 7, 8], []⟩)], [(0, []), (1, [6, 7, 8])], [2], [0, 4, 5, 6, 7, 8], []⟩
def impl_prefixesFault.lps (k : Nat) : List (Nat × Lp impl_prefixesFault.sg.Out) := [(2, ⟨[.l kPrefix, .i, .i], fun x => (fun x0 x1 x2 => ⟨[(6, .v false [.fz kPrefix x0]), (7, .v false [.int .i64 x1]), (8, .v false [.int .i64 x2])], [], []⟩) x.1 x.2.1 x.2.2.1, fun C n x => impl_prefixesFault.l2 k (fun y => C .ret ((fun y0 => ⟨[(2, .v false [.int .i64 y0])], [], []⟩) y.1)) (fun _ => C (.exit 0) ⟨[], [], []⟩) n x.1 x.2.1 x.2.2.1⟩)]
theorem impl_prefixesFault.loops (k : Nat) : LoopsOk impl_prefixesFault.E k impl_prefixesFault.hd (impl_prefixesFault.lps k) (loopsOf (Go.Proofs.Try.f64.body.getD .skip)) := ⟨⟨fun _ _ => rfl, fun _ _ _ => by kernel_rfl, fun _ => ⟨rfl, rfl⟩⟩, trivial⟩
theorem impl_prefixesFault.den (k : Nat) (x : Sig.In impl_prefixesFault.sg.ps) : denFn impl_prefixesFault.E k Go.Proofs.Try.f64 impl_prefixesFault.sg impl_prefixesFault.hd (runL k impl_prefixesFault.hd (impl_prefixesFault.lps k)) x = impl_prefixesFault.F k x := by kernel_rfl
theorem impl_prefixesFault.ok (k : Nat) : Contract Try.prog 64 impl_prefixesFault.sg (impl_prefixesFault.F k) := ok_of (E := impl_prefixesFault.E) (tysOk _ _) (eqsOk _) ⟨impl_PrefixFault.ok k, trivial⟩ Try.func64 rfl (by kernel_rfl) (impl_prefixesFault.loops k) (impl_prefixesFault.den k)
def slices_Grow_impl_Prefix_impl_Prefix.sg : Sig := ⟨[.z kPrefix, .b (.int .i64)], [((.sl kPrefix), .dp)]⟩
def slices_Grow_impl_Prefix_impl_Prefix.E : Env := ⟨tys, bys, [], eqs⟩
def slices_Grow_impl_Prefix_impl_Prefix.F (k : Nat) (x : (Int × Unit)) : Option (((List (Int × (Int × Unit))) × Unit) × Unit) :=
  bif (decide ((x.1 < (0 : Int)))) then
  (none)
  else bif (decide (((IntKind.wrap .i64 (x.1 - (IntKind.wrap .i64 ((0 : Int) - (0 : Int))))) > (0 : Int)))) then
    (bif (decide (((0 : Int) ≤ (IntKind.wrap .i64 (x.1 - (IntKind.wrap .i64 ((0 : Int) - (0 : Int)))))))) then
      (bif (Go.Dn.roomy ((List.length ([] : List (Int × (Int × Unit)))) + (List.length (List.replicate (Int.toNat (IntKind.wrap .i64 (x.1 - (IntKind.wrap .i64 ((0 : Int) - (0 : Int)))))) ((0 : Int), ((0 : Int), ()))))) 16) then
        (Go.Dn.share (([] : List (Int × (Int × Unit))) ++ (List.replicate (Int.toNat (IntKind.wrap .i64 (x.1 - (IntKind.wrap .i64 ((0 : Int) - (0 : Int)))))) ((0 : Int), ((0 : Int), ())))) fun s0 =>
          some (((List.take (Int.toNat ((0 : Int) - (0 : Int))) s0), ()), ()))
        else none)
      else none)
    else some ((([] : List (Int × (Int × Unit))), ()), ())
def slices_Grow_impl_Prefix_impl_Prefix.hd : Hints := ⟨[], [], [4], [0, 1], []⟩
def slices_Grow_impl_Prefix_impl_Prefix.lps (k : Nat) : List (Nat × Lp slices_Grow_impl_Prefix_impl_Prefix.sg.Out) := []
theorem slices_Grow_impl_Prefix_impl_Prefix.loops (k : Nat) : LoopsOk slices_Grow_impl_Prefix_impl_Prefix.E k slices_Grow_impl_Prefix_impl_Prefix.hd (slices_Grow_impl_Prefix_impl_Prefix.lps k) (loopsOf (Go.Proofs.Try.f72.body.getD .skip)) := trivial
theorem slices_Grow_impl_Prefix_impl_Prefix.den (k : Nat) (x : Sig.In slices_Grow_impl_Prefix_impl_Prefix.sg.ps) : denFn slices_Grow_impl_Prefix_impl_Prefix.E k Go.Proofs.Try.f72 slices_Grow_impl_Prefix_impl_Prefix.sg slices_Grow_impl_Prefix_impl_Prefix.hd (runL k slices_Grow_impl_Prefix_impl_Prefix.hd (slices_Grow_impl_Prefix_impl_Prefix.lps k)) x = slices_Grow_impl_Prefix_impl_Prefix.F k x := by kernel_rfl
theorem slices_Grow_impl_Prefix_impl_Prefix.ok (k : Nat) : Contract Try.prog 72 slices_Grow_impl_Prefix_impl_Prefix.sg (slices_Grow_impl_Prefix_impl_Prefix.F k) := ok_of (E := slices_Grow_impl_Prefix_impl_Prefix.E) (tysOk _ _) (eqsOk _) trivial Try.func72 rfl (by kernel_rfl) (slices_Grow_impl_Prefix_impl_Prefix.loops k) (slices_Grow_impl_Prefix_impl_Prefix.den k)
def slices_Concat_impl_Prefix_impl_Prefix.sg : Sig := ⟨[.b (.sl (.sl kPrefix))], [((.sl kPrefix), .dp)]⟩
def slices_Concat_impl_Prefix_impl_Prefix.E : Env := ⟨tys, bys, [(72, ⟨slices_Grow_impl_Prefix_impl_Prefix.sg, slices_Grow_impl_Prefix_impl_Prefix.F⟩)], eqs⟩
def slices_Concat_impl_Prefix_impl_Prefix.l3 {ρ : Type} (k : Nat) (c0 : (List (List (Int × (Int × Unit))) × (Int × Unit)) → Option ρ) : Nat → List (List (Int × (Int × Unit))) → Int → List (List (Int × (Int × Unit))) → Int → Int → Option ρ
  | 0 => fun _ _ _ _ _ => none
  | n + 1 => fun x0 x1 x2 x3 x4 => 
    bif (decide ((x4 < x3))) then
    (bif (Go.Dn.inB x4 (((List.length x2) : Nat) : Int)) then
      (Go.Dn.share (List.getD x2 (Int.toNat x4) ([] : List (Int × (Int × Unit)))) fun s0 =>
        bif (decide (((IntKind.wrap .i64 (x1 + (((List.length s0) : Nat) : Int))) < (0 : Int)))) then
        (none)
        else slices_Concat_impl_Prefix_impl_Prefix.l3 k c0 n x0 (IntKind.wrap .i64 (x1 + (((List.length s0) : Nat) : Int))) x2 x3 (IntKind.wrap .i64 (x4 + (1 : Int))))
      else none)
    else c0 (x0, x1, ())
def slices_Concat_impl_Prefix_impl_Prefix.l11 {ρ : Type} (k : Nat) (c0 : (List (Int × (Int × Unit)) × Unit) → Option ρ) : Nat → List (List (Int × (Int × Unit))) → Int → Int → List (Int × (Int × Unit)) → Option ρ
  | 0 => fun _ _ _ _ => none
  | n + 1 => fun x0 x1 x2 x3 => 
    bif (decide ((x2 < x1))) then
    (bif (Go.Dn.inB x2 (((List.length x0) : Nat) : Int)) then
      (Go.Dn.share (List.getD x0 (Int.toNat x2) ([] : List (Int × (Int × Unit)))) fun s3 =>
        bif (Go.Dn.roomy ((List.length x3) + (List.length s3)) 16) then
        (Go.Dn.share (x3 ++ s3) fun s4 =>
          slices_Concat_impl_Prefix_impl_Prefix.l11 k c0 n x0 x1 (IntKind.wrap .i64 (x2 + (1 : Int))) s4)
        else none)
      else none)
    else c0 (x3, ())
def slices_Concat_impl_Prefix_impl_Prefix.F (k : Nat) (x : ((List (List (Int × (Int × Unit)))) × Unit)) : Option (((List (Int × (Int × Unit))) × Unit) × Unit) :=
  slices_Concat_impl_Prefix_impl_Prefix.l3 k (fun e1 =>
    (slices_Grow_impl_Prefix_impl_Prefix.F k e1.2).bind fun y2 =>
    slices_Concat_impl_Prefix_impl_Prefix.l11 k (fun e5 =>
      some (e5, ())) k e1.1 (((List.length e1.1) : Nat) : Int) (0 : Int) y2.1.1) k x.1 (0 : Int) x.1 (((List.length x.1) : Nat) : Int) (0 : Int)
def slices_Concat_impl_Prefix_impl_Prefix.hd : Hints := ⟨[(3, ⟨[0, 3, 9, 10, 11], []⟩), (11, ⟨[6, 25, 26, 27], []⟩)], [(0, [0, 3]), (1, [0, 3, 9, 10, 11]), (2, [6]), (3, [6, 25, 26, 27])], [2], [0, 3, 5, 6, 8, 9, 10, 11, 25, 26, 27], []⟩
def slices_Concat_impl_Prefix_impl_Prefix.lps (k : Nat) : List (Nat × Lp slices_Concat_impl_Prefix_impl_Prefix.sg.Out) := [(3, ⟨[.l (.sl kPrefix), .i, .l (.sl kPrefix), .i, .i], fun x => (fun x0 x1 x2 x3 x4 => ⟨[(0, .v false [.fz (.sl kPrefix) x0]), (3, .v false [.int .i64 x1]), (9, .v false [.fz (.sl kPrefix) x2]), (10, .v false [.int .i64 x3]), (11, .v false [.int .i64 x4])], [], []⟩) x.1 x.2.1 x.2.2.1 x.2.2.2.1 x.2.2.2.2.1, fun C n x => slices_Concat_impl_Prefix_impl_Prefix.l3 k (fun y => C (.exit 0) ((fun y0 y1 => ⟨[(0, .v false [.fz (.sl kPrefix) y0]), (3, .v false [.int .i64 y1])], [], []⟩) y.1 y.2.1)) n x.1 x.2.1 x.2.2.1 x.2.2.2.1 x.2.2.2.2.1⟩),
  (11, ⟨[.l (.sl kPrefix), .i, .i, .l kPrefix], fun x => (fun x0 x1 x2 x3 => ⟨[(6, .v false [.arr 0]), (25, .v false [.fz (.sl kPrefix) x0]), (26, .v false [.int .i64 x1]), (27, .v false [.int .i64 x2])], [(0, .arr kPrefix true false x3)], []⟩) x.1 x.2.1 x.2.2.1 x.2.2.2.1, fun C n x => slices_Concat_impl_Prefix_impl_Prefix.l11 k (fun y => C (.exit 2) ((fun y0 => ⟨[(6, .v false [.arr 0])], [(0, .arr kPrefix true false y0)], []⟩) y.1)) n x.1 x.2.1 x.2.2.1 x.2.2.2.1⟩)]
theorem slices_Concat_impl_Prefix_impl_Prefix.loops (k : Nat) : LoopsOk slices_Concat_impl_Prefix_impl_Prefix.E k slices_Concat_impl_Prefix_impl_Prefix.hd (slices_Concat_impl_Prefix_impl_Prefix.lps k) (loopsOf (Go.Proofs.Try.f65.body.getD .skip)) := ⟨⟨fun _ _ => rfl, fun _ _ _ => by kernel_rfl, fun _ => ⟨rfl, rfl⟩⟩, ⟨⟨fun _ _ => rfl, fun _ _ _ => by kernel_rfl, fun _ => ⟨rfl, rfl⟩⟩, trivial⟩⟩
theorem slices_Concat_impl_Prefix_impl_Prefix.den (k : Nat) (x : Sig.In slices_Concat_impl_Prefix_impl_Prefix.sg.ps) : denFn slices_Concat_impl_Prefix_impl_Prefix.E k Go.Proofs.Try.f65 slices_Concat_impl_Prefix_impl_Prefix.sg slices_Concat_impl_Prefix_impl_Prefix.hd (runL k slices_Concat_impl_Prefix_impl_Prefix.hd (slices_Concat_impl_Prefix_impl_Prefix.lps k)) x = slices_Concat_impl_Prefix_impl_Prefix.F k x := by kernel_rfl
theorem slices_Concat_impl_Prefix_impl_Prefix.ok (k : Nat) : Contract Try.prog 65 slices_Concat_impl_Prefix_impl_Prefix.sg (slices_Concat_impl_Prefix_impl_Prefix.F k) := ok_of (E := slices_Concat_impl_Prefix_impl_Prefix.E) (tysOk _ _) (eqsOk _) ⟨slices_Grow_impl_Prefix_impl_Prefix.ok k, trivial⟩ Try.func65 rfl (by kernel_rfl) (slices_Concat_impl_Prefix_impl_Prefix.loops k) (slices_Concat_impl_Prefix_impl_Prefix.den k)
def impl_isTwo.sg : Sig := ⟨[.b (.int .i64)], [(.bool, .rd)]⟩
def impl_isTwo.E : Env := ⟨tys, bys, [(45, ⟨impl_in.sg, impl_in.F⟩)], eqs⟩
def impl_isTwo.F (k : Nat) (x : (Int × Unit)) : Option ((Bool × Unit) × Unit) :=
  (impl_in.F k (x.1, (0 : Int), (65535 : Int), ())).bind fun y0 =>
  some y0
def impl_isTwo.hd : Hints := ⟨[], [], [2], [0], []⟩
def impl_isTwo.lps (k : Nat) : List (Nat × Lp impl_isTwo.sg.Out) := []
theorem impl_isTwo.loops (k : Nat) : LoopsOk impl_isTwo.E k impl_isTwo.hd (impl_isTwo.lps k) (loopsOf (Go.Proofs.Try.f74.body.getD .skip)) := trivial
theorem impl_isTwo.den (k : Nat) (x : Sig.In impl_isTwo.sg.ps) : denFn impl_isTwo.E k Go.Proofs.Try.f74 impl_isTwo.sg impl_isTwo.hd (runL k impl_isTwo.hd (impl_isTwo.lps k)) x = impl_isTwo.F k x := by kernel_rfl
theorem impl_isTwo.ok (k : Nat) : Contract Try.prog 74 impl_isTwo.sg (impl_isTwo.F k) := ok_of (E := impl_isTwo.E) (tysOk _ _) (eqsOk _) ⟨impl_in.ok k, trivial⟩ Try.func74 rfl (by kernel_rfl) (impl_isTwo.loops k) (impl_isTwo.den k)
def slices_IndexFunc_int64_int64.sg : Sig := ⟨[.b (.sl (.int .i64)), .f (.pair (.int .i64) .unit) .bool], [((.int .i64), .rd)]⟩
def slices_IndexFunc_int64_int64.E : Env := ⟨tys, bys, [], eqs⟩
def slices_IndexFunc_int64_int64.l2 {ρ : Type} (k : Nat) (c0 : (Int × Unit) → Option ρ) (c1 : Unit → Option ρ) : Nat → List Int → ((Int × Unit) → Option Bool) → Int → Int → Option ρ
  | 0 => fun _ _ _ _ => none
  | n + 1 => fun x0 x1 x2 x3 => 
    bif (decide ((x3 < x2))) then
    (bif (Go.Dn.inB x3 (((List.length x0) : Nat) : Int)) then
      (Go.Dn.share (List.getD x0 (Int.toNat x3) (0 : Int)) fun s0 =>
        (x1 (s0, ())).bind fun y1 =>
        bif y1 then
        (c0 (x3, ()))
        else slices_IndexFunc_int64_int64.l2 k c0 c1 n x0 x1 x2 (IntKind.wrap .i64 (x3 + (1 : Int))))
      else none)
    else c1 (())
def slices_IndexFunc_int64_int64.F (k : Nat) (x : ((List Int) × (((Int × Unit) → Option Bool) × Unit))) : Option ((Int × Unit) × Unit) :=
  slices_IndexFunc_int64_int64.l2 k (fun e2 =>
    some (e2, ())) (fun e3 =>
    some (((-(1 : Int)), ()), ())) k x.1 x.2.1 (((List.length x.1) : Nat) : Int) (0 : Int)
def slices_IndexFunc_int64_int64.hd : Hints := ⟨[(2, ⟨[0, 1, 7, 8], []⟩)], [(0, []), (1, [0, 1, 7, 8])], [4], [0, 1, 5, 7, 8], []⟩
def slices_IndexFunc_int64_int64.lps (k : Nat) : List (Nat × Lp slices_IndexFunc_int64_int64.sg.Out) := [(2, ⟨[.l (.int .i64), .f (.pair (.int .i64) .unit) .bool, .i, .i], fun x => (fun x0 x1 x2 x3 => ⟨[(0, .v false [.fz (.int .i64) x0]), (1, .v false [.fnv (.pair (.int .i64) .unit) .bool x1]), (7, .v false [.int .i64 x2]), (8, .v false [.int .i64 x3])], [], []⟩) x.1 x.2.1 x.2.2.1 x.2.2.2.1, fun C n x => slices_IndexFunc_int64_int64.l2 k (fun y => C .ret ((fun y0 => ⟨[(4, .v false [.int .i64 y0])], [], []⟩) y.1)) (fun _ => C (.exit 0) ⟨[], [], []⟩) n x.1 x.2.1 x.2.2.1 x.2.2.2.1⟩)]
theorem slices_IndexFunc_int64_int64.loops (k : Nat) : LoopsOk slices_IndexFunc_int64_int64.E k slices_IndexFunc_int64_int64.hd (slices_IndexFunc_int64_int64.lps k) (loopsOf (Go.Proofs.Try.f79.body.getD .skip)) := ⟨⟨fun _ _ => rfl, fun _ _ _ => by kernel_rfl, fun _ => ⟨rfl, rfl⟩⟩, trivial⟩
theorem slices_IndexFunc_int64_int64.den (k : Nat) (x : Sig.In slices_IndexFunc_int64_int64.sg.ps) : denFn slices_IndexFunc_int64_int64.E k Go.Proofs.Try.f79 slices_IndexFunc_int64_int64.sg slices_IndexFunc_int64_int64.hd (runL k slices_IndexFunc_int64_int64.hd (slices_IndexFunc_int64_int64.lps k)) x = slices_IndexFunc_int64_int64.F k x := by kernel_rfl
theorem slices_IndexFunc_int64_int64.ok (k : Nat) : Contract Try.prog 79 slices_IndexFunc_int64_int64.sg (slices_IndexFunc_int64_int64.F k) := ok_of (E := slices_IndexFunc_int64_int64.E) (tysOk _ _) (eqsOk _) trivial Try.func79 rfl (by kernel_rfl) (slices_IndexFunc_int64_int64.loops k) (slices_IndexFunc_int64_int64.den k)
def slices_ContainsFunc_int64_int64.sg : Sig := ⟨[.b (.sl (.int .i64)), .f (.pair (.int .i64) .unit) .bool], [(.bool, .rd)]⟩
def slices_ContainsFunc_int64_int64.E : Env := ⟨tys, bys, [(79, ⟨slices_IndexFunc_int64_int64.sg, slices_IndexFunc_int64_int64.F⟩)], eqs⟩
def slices_ContainsFunc_int64_int64.F (k : Nat) (x : ((List Int) × (((Int × Unit) → Option Bool) × Unit))) : Option ((Bool × Unit) × Unit) :=
  (slices_IndexFunc_int64_int64.F k x).bind fun y0 =>
  some (((decide ((y0.1.1 ≥ (0 : Int)))), ()), ())
def slices_ContainsFunc_int64_int64.hd : Hints := ⟨[], [], [4], [0, 1], []⟩
def slices_ContainsFunc_int64_int64.lps (k : Nat) : List (Nat × Lp slices_ContainsFunc_int64_int64.sg.Out) := []
theorem slices_ContainsFunc_int64_int64.loops (k : Nat) : LoopsOk slices_ContainsFunc_int64_int64.E k slices_ContainsFunc_int64_int64.hd (slices_ContainsFunc_int64_int64.lps k) (loopsOf (Go.Proofs.Try.f75.body.getD .skip)) := trivial
theorem slices_ContainsFunc_int64_int64.den (k : Nat) (x : Sig.In slices_ContainsFunc_int64_int64.sg.ps) : denFn slices_ContainsFunc_int64_int64.E k Go.Proofs.Try.f75 slices_ContainsFunc_int64_int64.sg slices_ContainsFunc_int64_int64.hd (runL k slices_ContainsFunc_int64_int64.hd (slices_ContainsFunc_int64_int64.lps k)) x = slices_ContainsFunc_int64_int64.F k x := by kernel_rfl
theorem slices_ContainsFunc_int64_int64.ok (k : Nat) : Contract Try.prog 75 slices_ContainsFunc_int64_int64.sg (slices_ContainsFunc_int64_int64.F k) := ok_of (E := slices_ContainsFunc_int64_int64.E) (tysOk _ _) (eqsOk _) ⟨slices_IndexFunc_int64_int64.ok k, trivial⟩ Try.func75 rfl (by kernel_rfl) (slices_ContainsFunc_int64_int64.loops k) (slices_ContainsFunc_int64_int64.den k)
def impl_AttrsFault_1.sg : Sig := ⟨[.b (.int .i64)], [(.bool, .rd)]⟩
def impl_AttrsFault_1.E : Env := ⟨tys, bys, [(46, ⟨impl_isSystem.sg, impl_isSystem.F⟩)], eqs⟩
def impl_AttrsFault_1.F (k : Nat) (x : (Int × Unit)) : Option ((Bool × Unit) × Unit) :=
  (impl_isSystem.F k x).bind fun y0 =>
  some (((!y0.1.1), ()), ())
def impl_AttrsFault_1.hd : Hints := ⟨[], [], [2], [0], []⟩
def impl_AttrsFault_1.lps (k : Nat) : List (Nat × Lp impl_AttrsFault_1.sg.Out) := []
theorem impl_AttrsFault_1.loops (k : Nat) : LoopsOk impl_AttrsFault_1.E k impl_AttrsFault_1.hd (impl_AttrsFault_1.lps k) (loopsOf (Go.Proofs.Try.f76.body.getD .skip)) := trivial
theorem impl_AttrsFault_1.den (k : Nat) (x : Sig.In impl_AttrsFault_1.sg.ps) : denFn impl_AttrsFault_1.E k Go.Proofs.Try.f76 impl_AttrsFault_1.sg impl_AttrsFault_1.hd (runL k impl_AttrsFault_1.hd (impl_AttrsFault_1.lps k)) x = impl_AttrsFault_1.F k x := by kernel_rfl
theorem impl_AttrsFault_1.ok (k : Nat) : Contract Try.prog 76 impl_AttrsFault_1.sg (impl_AttrsFault_1.F k) := ok_of (E := impl_AttrsFault_1.E) (tysOk _ _) (eqsOk _) ⟨impl_isSystem.ok k, trivial⟩ Try.func76 rfl (by kernel_rfl) (impl_AttrsFault_1.loops k) (impl_AttrsFault_1.den k)
def impl_AttrsFault.sg : Sig := ⟨[.b kAttrs], [((.int .i64), .rd)]⟩
def impl_AttrsFault.E : Env := ⟨tys, bys, [(45, ⟨impl_in.sg, impl_in.F⟩), (73, ⟨impl_isAddr.sg, impl_isAddr.F⟩), (74, ⟨impl_isTwo.sg, impl_isTwo.F⟩), (75, ⟨slices_ContainsFunc_int64_int64.sg, slices_ContainsFunc_int64_int64.F⟩), (76, ⟨impl_AttrsFault_1.sg, impl_AttrsFault_1.F⟩)], eqs⟩
def impl_AttrsFault.F (k : Nat) (x : ((Int × ((List Int) × (Int × (Int × (Int × Unit))))) × Unit)) : Option ((Int × Unit) × Unit) :=
  (impl_in.F k (x.1.1, (0 : Int), (2 : Int), ())).bind fun y0 =>
  bif (!y0.1.1) then
  (some (((3 : Int), ()), ()))
  else (impl_isAddr.F k (x.1.2.2.1, ())).bind fun y1 =>
    bif (!y1.1.1) then
    (some (((3 : Int), ()), ()))
    else (impl_isTwo.F k (x.1.2.2.2.1, ())).bind fun y2 =>
      bif (!y2.1.1) then
      (some (((3 : Int), ()), ()))
      else (impl_isTwo.F k x.1.2.2.2.2).bind fun y3 =>
        bif (!y3.1.1) then
        (some (((3 : Int), ()), ()))
        else bif (decide (((((List.length x.1.2.1) : Nat) : Int) > (6 : Int)))) then
          (some (((2 : Int), ()), ()))
          else (slices_ContainsFunc_int64_int64.F k (x.1.2.1, (fun x => (Option.bind (impl_AttrsFault_1.F k x) (fun y => (Option.some y.1.1)))), ())).bind fun y4 =>
            bif y4.1.1 then
            (some (((3 : Int), ()), ()))
            else some (((0 : Int), ()), ())
def impl_AttrsFault.hd : Hints := ⟨[], [(0, [])], [2], [0, 1], []⟩
def impl_AttrsFault.lps (k : Nat) : List (Nat × Lp impl_AttrsFault.sg.Out) := []
theorem impl_AttrsFault.loops (k : Nat) : LoopsOk impl_AttrsFault.E k impl_AttrsFault.hd (impl_AttrsFault.lps k) (loopsOf (Go.Proofs.Try.f66.body.getD .skip)) := trivial
theorem impl_AttrsFault.den (k : Nat) (x : Sig.In impl_AttrsFault.sg.ps) : denFn impl_AttrsFault.E k Go.Proofs.Try.f66 impl_AttrsFault.sg impl_AttrsFault.hd (runL k impl_AttrsFault.hd (impl_AttrsFault.lps k)) x = impl_AttrsFault.F k x := by kernel_rfl
theorem impl_AttrsFault.ok (k : Nat) : Contract Try.prog 66 impl_AttrsFault.sg (impl_AttrsFault.F k) := ok_of (E := impl_AttrsFault.E) (tysOk _ _) (eqsOk _) ⟨impl_in.ok k, impl_isAddr.ok k, impl_isTwo.ok k, slices_ContainsFunc_int64_int64.ok k, impl_AttrsFault_1.ok k, trivial⟩ Try.func66 rfl (by kernel_rfl) (impl_AttrsFault.loops k) (impl_AttrsFault.den k)
def impl_UpdateFault.sg : Sig := ⟨[.b kUpdate], [((.int .i64), .rd)]⟩
def impl_UpdateFault.E : Env := ⟨tys, bys, [(63, ⟨impl_Attrs_isZero.sg, impl_Attrs_isZero.F⟩), (64, ⟨impl_prefixesFault.sg, impl_prefixesFault.F⟩), (65, ⟨slices_Concat_impl_Prefix_impl_Prefix.sg, slices_Concat_impl_Prefix_impl_Prefix.F⟩), (66, ⟨impl_AttrsFault.sg, impl_AttrsFault.F⟩)], eqs⟩
def impl_UpdateFault.F (k : Nat) (x : (((List (Int × (Int × Unit))) × (Bool × ((Int × ((List Int) × (Int × (Int × (Int × Unit))))) × ((List (Int × (Int × Unit))) × Unit)))) × Unit)) : Option ((Int × Unit) × Unit) :=
  bif (decide (((((List.length x.1.1) : Nat) : Int) > (8 : Int)))) then
  (some (((2 : Int), ()), ()))
  else bif (decide (((((List.length x.1.2.2.2.1) : Nat) : Int) > (8 : Int)))) then
    (some (((2 : Int), ()), ()))
    else (slices_Concat_impl_Prefix_impl_Prefix.F k ([x.1.1, x.1.2.2.2.1], ())).bind fun y0 =>
      (impl_prefixesFault.F k y0.1).bind fun y1 =>
      bif (y1.1.1 != (0 : Int)) then
      (some y1)
      else bif (!x.1.2.1) then
        (bif (decide (((((List.length x.1.2.2.2.1) : Nat) : Int) > (0 : Int)))) then
          (some (((1 : Int), ()), ()))
          else (impl_Attrs_isZero.F k (x.1.2.2.1, ())).bind fun y2 =>
            bif (!y2.1.1) then
            (some (((1 : Int), ()), ()))
            else bif x.1.2.1 then
              (bif ((((List.length x.1.2.2.2.1) : Nat) : Int) == (0 : Int)) then
                (some (((1 : Int), ()), ()))
                else bif x.1.2.1 then
                  ((impl_AttrsFault.F k (x.1.2.2.1, ())).bind fun y3 =>
                    some y3)
                  else some (((0 : Int), ()), ()))
              else bif x.1.2.1 then
                ((impl_AttrsFault.F k (x.1.2.2.1, ())).bind fun y4 =>
                  some y4)
                else some (((0 : Int), ()), ()))
        else bif x.1.2.1 then
          (bif ((((List.length x.1.2.2.2.1) : Nat) : Int) == (0 : Int)) then
            (some (((1 : Int), ()), ()))
            else bif x.1.2.1 then
              ((impl_AttrsFault.F k (x.1.2.2.1, ())).bind fun y5 =>
                some y5)
              else some (((0 : Int), ()), ()))
          else bif x.1.2.1 then
            ((impl_AttrsFault.F k (x.1.2.2.1, ())).bind fun y6 =>
              some y6)
            else some (((0 : Int), ()), ())
def impl_UpdateFault.hd : Hints := ⟨[], [(0, [])], [2], [0, 1, 3], []⟩
def impl_UpdateFault.lps (k : Nat) : List (Nat × Lp impl_UpdateFault.sg.Out) := []
theorem impl_UpdateFault.loops (k : Nat) : LoopsOk impl_UpdateFault.E k impl_UpdateFault.hd (impl_UpdateFault.lps k) (loopsOf (Go.Proofs.Try.f50.body.getD .skip)) := trivial
theorem impl_UpdateFault.den (k : Nat) (x : Sig.In impl_UpdateFault.sg.ps) : denFn impl_UpdateFault.E k Go.Proofs.Try.f50 impl_UpdateFault.sg impl_UpdateFault.hd (runL k impl_UpdateFault.hd (impl_UpdateFault.lps k)) x = impl_UpdateFault.F k x := by kernel_rfl
theorem impl_UpdateFault.ok (k : Nat) : Contract Try.prog 50 impl_UpdateFault.sg (impl_UpdateFault.F k) := ok_of (E := impl_UpdateFault.E) (tysOk _ _) (eqsOk _) ⟨impl_Attrs_isZero.ok k, impl_prefixesFault.ok k, slices_Concat_impl_Prefix_impl_Prefix.ok k, impl_AttrsFault.ok k, trivial⟩ Try.func50 rfl (by kernel_rfl) (impl_UpdateFault.loops k) (impl_UpdateFault.den k)
def impl_MessageFault.sg : Sig := ⟨[.b kMessage], [((.int .i64), .rd)]⟩
def impl_MessageFault.E : Env := ⟨tys, bys, [(45, ⟨impl_in.sg, impl_in.F⟩), (46, ⟨impl_isSystem.sg, impl_isSystem.F⟩), (47, ⟨impl_isHold.sg, impl_isHold.F⟩), (48, ⟨impl_areReasons.sg, impl_areReasons.F⟩), (49, ⟨impl_Update_isZero.sg, impl_Update_isZero.F⟩), (50, ⟨impl_UpdateFault.sg, impl_UpdateFault.F⟩)], eqs⟩
def impl_MessageFault.F (k : Nat) (x : ((Int × (Int × (Int × (Int × (Int × (Int × (((List (Int × (Int × Unit))) × (Bool × ((Int × ((List Int) × (Int × (Int × (Int × Unit))))) × ((List (Int × (Int × Unit))) × Unit)))) × Unit))))))) × Unit)) : Option ((Int × Unit) × Unit) :=
  (impl_in.F k (x.1.1, (1 : Int), (4 : Int), ())).bind fun y0 =>
  bif (!y0.1.1) then
  (some (((1 : Int), ()), ()))
  else bif (x.1.1 == (1 : Int)) then
    ((impl_isSystem.F k (x.1.2.1, ())).bind fun y1 =>
      bif (!y1.1.1) then
      (some (((3 : Int), ()), ()))
      else (impl_isHold.F k (x.1.2.2.1, ())).bind fun y2 =>
        bif (!y2.1.1) then
        (some (((3 : Int), ()), ()))
        else (impl_isSystem.F k (x.1.2.2.2.1, ())).bind fun y3 =>
          bif (!y3.1.1) then
          (some (((3 : Int), ()), ()))
          else bif (x.1.1 == (3 : Int)) then
            ((impl_areReasons.F k (x.1.2.2.2.2.1, x.1.2.2.2.2.2.1, ())).bind fun y4 =>
              bif (!y4.1.1) then
              (some (((3 : Int), ()), ()))
              else bif (x.1.1 != (1 : Int)) then
                (bif (x.1.2.1 != (0 : Int)) then
                  (some (((1 : Int), ()), ()))
                  else bif (x.1.2.2.1 != (0 : Int)) then
                    (some (((1 : Int), ()), ()))
                    else bif (x.1.2.2.2.1 != (0 : Int)) then
                      (some (((1 : Int), ()), ()))
                      else bif (x.1.1 != (3 : Int)) then
                        (bif (x.1.2.2.2.2.1 != (0 : Int)) then
                          (some (((1 : Int), ()), ()))
                          else bif (x.1.2.2.2.2.2.1 != (0 : Int)) then
                            (some (((1 : Int), ()), ()))
                            else bif (x.1.1 != (2 : Int)) then
                              ((impl_Update_isZero.F k x.1.2.2.2.2.2.2).bind fun y5 =>
                                bif (!y5.1.1) then
                                (some (((1 : Int), ()), ()))
                                else (impl_UpdateFault.F k x.1.2.2.2.2.2.2).bind fun y6 =>
                                  some y6)
                              else (impl_UpdateFault.F k x.1.2.2.2.2.2.2).bind fun y7 =>
                                some y7)
                        else bif (x.1.1 != (2 : Int)) then
                          ((impl_Update_isZero.F k x.1.2.2.2.2.2.2).bind fun y8 =>
                            bif (!y8.1.1) then
                            (some (((1 : Int), ()), ()))
                            else (impl_UpdateFault.F k x.1.2.2.2.2.2.2).bind fun y9 =>
                              some y9)
                          else (impl_UpdateFault.F k x.1.2.2.2.2.2.2).bind fun y10 =>
                            some y10)
                else bif (x.1.1 != (3 : Int)) then
                  (bif (x.1.2.2.2.2.1 != (0 : Int)) then
                    (some (((1 : Int), ()), ()))
                    else bif (x.1.2.2.2.2.2.1 != (0 : Int)) then
                      (some (((1 : Int), ()), ()))
                      else bif (x.1.1 != (2 : Int)) then
                        ((impl_Update_isZero.F k x.1.2.2.2.2.2.2).bind fun y11 =>
                          bif (!y11.1.1) then
                          (some (((1 : Int), ()), ()))
                          else (impl_UpdateFault.F k x.1.2.2.2.2.2.2).bind fun y12 =>
                            some y12)
                        else (impl_UpdateFault.F k x.1.2.2.2.2.2.2).bind fun y13 =>
                          some y13)
                  else bif (x.1.1 != (2 : Int)) then
                    ((impl_Update_isZero.F k x.1.2.2.2.2.2.2).bind fun y14 =>
                      bif (!y14.1.1) then
                      (some (((1 : Int), ()), ()))
                      else (impl_UpdateFault.F k x.1.2.2.2.2.2.2).bind fun y15 =>
                        some y15)
                    else (impl_UpdateFault.F k x.1.2.2.2.2.2.2).bind fun y16 =>
                      some y16)
            else bif (x.1.1 != (1 : Int)) then
              (bif (x.1.2.1 != (0 : Int)) then
                (some (((1 : Int), ()), ()))
                else bif (x.1.2.2.1 != (0 : Int)) then
                  (some (((1 : Int), ()), ()))
                  else bif (x.1.2.2.2.1 != (0 : Int)) then
                    (some (((1 : Int), ()), ()))
                    else bif (x.1.1 != (3 : Int)) then
                      (bif (x.1.2.2.2.2.1 != (0 : Int)) then
                        (some (((1 : Int), ()), ()))
                        else bif (x.1.2.2.2.2.2.1 != (0 : Int)) then
                          (some (((1 : Int), ()), ()))
                          else bif (x.1.1 != (2 : Int)) then
                            ((impl_Update_isZero.F k x.1.2.2.2.2.2.2).bind fun y17 =>
                              bif (!y17.1.1) then
                              (some (((1 : Int), ()), ()))
                              else (impl_UpdateFault.F k x.1.2.2.2.2.2.2).bind fun y18 =>
                                some y18)
                            else (impl_UpdateFault.F k x.1.2.2.2.2.2.2).bind fun y19 =>
                              some y19)
                      else bif (x.1.1 != (2 : Int)) then
                        ((impl_Update_isZero.F k x.1.2.2.2.2.2.2).bind fun y20 =>
                          bif (!y20.1.1) then
                          (some (((1 : Int), ()), ()))
                          else (impl_UpdateFault.F k x.1.2.2.2.2.2.2).bind fun y21 =>
                            some y21)
                        else (impl_UpdateFault.F k x.1.2.2.2.2.2.2).bind fun y22 =>
                          some y22)
              else bif (x.1.1 != (3 : Int)) then
                (bif (x.1.2.2.2.2.1 != (0 : Int)) then
                  (some (((1 : Int), ()), ()))
                  else bif (x.1.2.2.2.2.2.1 != (0 : Int)) then
                    (some (((1 : Int), ()), ()))
                    else bif (x.1.1 != (2 : Int)) then
                      ((impl_Update_isZero.F k x.1.2.2.2.2.2.2).bind fun y23 =>
                        bif (!y23.1.1) then
                        (some (((1 : Int), ()), ()))
                        else (impl_UpdateFault.F k x.1.2.2.2.2.2.2).bind fun y24 =>
                          some y24)
                      else (impl_UpdateFault.F k x.1.2.2.2.2.2.2).bind fun y25 =>
                        some y25)
                else bif (x.1.1 != (2 : Int)) then
                  ((impl_Update_isZero.F k x.1.2.2.2.2.2.2).bind fun y26 =>
                    bif (!y26.1.1) then
                    (some (((1 : Int), ()), ()))
                    else (impl_UpdateFault.F k x.1.2.2.2.2.2.2).bind fun y27 =>
                      some y27)
                  else (impl_UpdateFault.F k x.1.2.2.2.2.2.2).bind fun y28 =>
                    some y28)
    else bif (x.1.1 == (3 : Int)) then
      ((impl_areReasons.F k (x.1.2.2.2.2.1, x.1.2.2.2.2.2.1, ())).bind fun y29 =>
        bif (!y29.1.1) then
        (some (((3 : Int), ()), ()))
        else bif (x.1.1 != (1 : Int)) then
          (bif (x.1.2.1 != (0 : Int)) then
            (some (((1 : Int), ()), ()))
            else bif (x.1.2.2.1 != (0 : Int)) then
              (some (((1 : Int), ()), ()))
              else bif (x.1.2.2.2.1 != (0 : Int)) then
                (some (((1 : Int), ()), ()))
                else bif (x.1.1 != (3 : Int)) then
                  (bif (x.1.2.2.2.2.1 != (0 : Int)) then
                    (some (((1 : Int), ()), ()))
                    else bif (x.1.2.2.2.2.2.1 != (0 : Int)) then
                      (some (((1 : Int), ()), ()))
                      else bif (x.1.1 != (2 : Int)) then
                        ((impl_Update_isZero.F k x.1.2.2.2.2.2.2).bind fun y30 =>
                          bif (!y30.1.1) then
                          (some (((1 : Int), ()), ()))
                          else (impl_UpdateFault.F k x.1.2.2.2.2.2.2).bind fun y31 =>
                            some y31)
                        else (impl_UpdateFault.F k x.1.2.2.2.2.2.2).bind fun y32 =>
                          some y32)
                  else bif (x.1.1 != (2 : Int)) then
                    ((impl_Update_isZero.F k x.1.2.2.2.2.2.2).bind fun y33 =>
                      bif (!y33.1.1) then
                      (some (((1 : Int), ()), ()))
                      else (impl_UpdateFault.F k x.1.2.2.2.2.2.2).bind fun y34 =>
                        some y34)
                    else (impl_UpdateFault.F k x.1.2.2.2.2.2.2).bind fun y35 =>
                      some y35)
          else bif (x.1.1 != (3 : Int)) then
            (bif (x.1.2.2.2.2.1 != (0 : Int)) then
              (some (((1 : Int), ()), ()))
              else bif (x.1.2.2.2.2.2.1 != (0 : Int)) then
                (some (((1 : Int), ()), ()))
                else bif (x.1.1 != (2 : Int)) then
                  ((impl_Update_isZero.F k x.1.2.2.2.2.2.2).bind fun y36 =>
                    bif (!y36.1.1) then
                    (some (((1 : Int), ()), ()))
                    else (impl_UpdateFault.F k x.1.2.2.2.2.2.2).bind fun y37 =>
                      some y37)
                  else (impl_UpdateFault.F k x.1.2.2.2.2.2.2).bind fun y38 =>
                    some y38)
            else bif (x.1.1 != (2 : Int)) then
              ((impl_Update_isZero.F k x.1.2.2.2.2.2.2).bind fun y39 =>
                bif (!y39.1.1) then
                (some (((1 : Int), ()), ()))
                else (impl_UpdateFault.F k x.1.2.2.2.2.2.2).bind fun y40 =>
                  some y40)
              else (impl_UpdateFault.F k x.1.2.2.2.2.2.2).bind fun y41 =>
                some y41)
      else bif (x.1.1 != (1 : Int)) then
        (bif (x.1.2.1 != (0 : Int)) then
          (some (((1 : Int), ()), ()))
          else bif (x.1.2.2.1 != (0 : Int)) then
            (some (((1 : Int), ()), ()))
            else bif (x.1.2.2.2.1 != (0 : Int)) then
              (some (((1 : Int), ()), ()))
              else bif (x.1.1 != (3 : Int)) then
                (bif (x.1.2.2.2.2.1 != (0 : Int)) then
                  (some (((1 : Int), ()), ()))
                  else bif (x.1.2.2.2.2.2.1 != (0 : Int)) then
                    (some (((1 : Int), ()), ()))
                    else bif (x.1.1 != (2 : Int)) then
                      ((impl_Update_isZero.F k x.1.2.2.2.2.2.2).bind fun y42 =>
                        bif (!y42.1.1) then
                        (some (((1 : Int), ()), ()))
                        else (impl_UpdateFault.F k x.1.2.2.2.2.2.2).bind fun y43 =>
                          some y43)
                      else (impl_UpdateFault.F k x.1.2.2.2.2.2.2).bind fun y44 =>
                        some y44)
                else bif (x.1.1 != (2 : Int)) then
                  ((impl_Update_isZero.F k x.1.2.2.2.2.2.2).bind fun y45 =>
                    bif (!y45.1.1) then
                    (some (((1 : Int), ()), ()))
                    else (impl_UpdateFault.F k x.1.2.2.2.2.2.2).bind fun y46 =>
                      some y46)
                  else (impl_UpdateFault.F k x.1.2.2.2.2.2.2).bind fun y47 =>
                    some y47)
        else bif (x.1.1 != (3 : Int)) then
          (bif (x.1.2.2.2.2.1 != (0 : Int)) then
            (some (((1 : Int), ()), ()))
            else bif (x.1.2.2.2.2.2.1 != (0 : Int)) then
              (some (((1 : Int), ()), ()))
              else bif (x.1.1 != (2 : Int)) then
                ((impl_Update_isZero.F k x.1.2.2.2.2.2.2).bind fun y48 =>
                  bif (!y48.1.1) then
                  (some (((1 : Int), ()), ()))
                  else (impl_UpdateFault.F k x.1.2.2.2.2.2.2).bind fun y49 =>
                    some y49)
                else (impl_UpdateFault.F k x.1.2.2.2.2.2.2).bind fun y50 =>
                  some y50)
          else bif (x.1.1 != (2 : Int)) then
            ((impl_Update_isZero.F k x.1.2.2.2.2.2.2).bind fun y51 =>
              bif (!y51.1.1) then
              (some (((1 : Int), ()), ()))
              else (impl_UpdateFault.F k x.1.2.2.2.2.2.2).bind fun y52 =>
                some y52)
            else (impl_UpdateFault.F k x.1.2.2.2.2.2.2).bind fun y53 =>
              some y53
def impl_MessageFault.hd : Hints := ⟨[], [(0, [1])], [2], [0, 1], []⟩
def impl_MessageFault.lps (k : Nat) : List (Nat × Lp impl_MessageFault.sg.Out) := []
theorem impl_MessageFault.loops (k : Nat) : LoopsOk impl_MessageFault.E k impl_MessageFault.hd (impl_MessageFault.lps k) (loopsOf (Go.Proofs.Try.f28.body.getD .skip)) := trivial
theorem impl_MessageFault.den (k : Nat) (x : Sig.In impl_MessageFault.sg.ps) : denFn impl_MessageFault.E k Go.Proofs.Try.f28 impl_MessageFault.sg impl_MessageFault.hd (runL k impl_MessageFault.hd (impl_MessageFault.lps k)) x = impl_MessageFault.F k x := by kernel_rfl
theorem impl_MessageFault.ok (k : Nat) : Contract Try.prog 28 impl_MessageFault.sg (impl_MessageFault.F k) := ok_of (E := impl_MessageFault.E) (tysOk _ _) (eqsOk _) ⟨impl_in.ok k, impl_isSystem.ok k, impl_isHold.ok k, impl_areReasons.ok k, impl_Update_isZero.ok k, impl_UpdateFault.ok k, trivial⟩ Try.func28 rfl (by kernel_rfl) (impl_MessageFault.loops k) (impl_MessageFault.den k)
def impl_FrameFault.sg : Sig := ⟨[.b kBytesResult], [((.int .i64), .rd)]⟩
def impl_FrameFault.E : Env := ⟨tys, bys, [(45, ⟨impl_in.sg, impl_in.F⟩)], eqs⟩
def impl_FrameFault.F (k : Nat) (x : ((Int × ((List Int) × Unit)) × Unit)) : Option ((Int × Unit) × Unit) :=
  (impl_in.F k (x.1.1, (1 : Int), (4 : Int), ())).bind fun y0 =>
  bif (!y0.1.1) then
  (some (((3 : Int), ()), ()))
  else bif (decide (((((List.length x.1.2.1) : Nat) : Int) > (120 : Int)))) then
    (some (((2 : Int), ()), ()))
    else some (((0 : Int), ()), ())
def impl_FrameFault.hd : Hints := ⟨[], [(0, [])], [2], [0, 1], []⟩
def impl_FrameFault.lps (k : Nat) : List (Nat × Lp impl_FrameFault.sg.Out) := []
theorem impl_FrameFault.loops (k : Nat) : LoopsOk impl_FrameFault.E k impl_FrameFault.hd (impl_FrameFault.lps k) (loopsOf (Go.Proofs.Try.f51.body.getD .skip)) := trivial
theorem impl_FrameFault.den (k : Nat) (x : Sig.In impl_FrameFault.sg.ps) : denFn impl_FrameFault.E k Go.Proofs.Try.f51 impl_FrameFault.sg impl_FrameFault.hd (runL k impl_FrameFault.hd (impl_FrameFault.lps k)) x = impl_FrameFault.F k x := by kernel_rfl
theorem impl_FrameFault.ok (k : Nat) : Contract Try.prog 51 impl_FrameFault.sg (impl_FrameFault.F k) := ok_of (E := impl_FrameFault.E) (tysOk _ _) (eqsOk _) ⟨impl_in.ok k, trivial⟩ Try.func51 rfl (by kernel_rfl) (impl_FrameFault.loops k) (impl_FrameFault.den k)
def impl_putTwo.sg : Sig := ⟨[.c (.int .u8) true, .b (.int .i64)], [((.sl (.int .u8)), .dp)]⟩
def impl_putTwo.E : Env := ⟨tys, bys, [], eqs⟩
def impl_putTwo.F (k : Nat) (x : ((List Int) × (Int × Unit))) : Option (((List Int) × Unit) × Unit) :=
  bif (Go.Dn.roomy ((List.length x.1) + (List.length [(IntKind.wrap .u8 (Go.Dn.shrV .i64 x.2.1 (8 : Int))), (IntKind.wrap .u8 x.2.1)])) 1) then
  (Go.Dn.share (x.1 ++ [(IntKind.wrap .u8 (Go.Dn.shrV .i64 x.2.1 (8 : Int))), (IntKind.wrap .u8 x.2.1)]) fun s0 =>
    some ((s0, ()), ()))
  else none
def impl_putTwo.hd : Hints := ⟨[], [], [4], [0, 1], []⟩
def impl_putTwo.lps (k : Nat) : List (Nat × Lp impl_putTwo.sg.Out) := []
theorem impl_putTwo.loops (k : Nat) : LoopsOk impl_putTwo.E k impl_putTwo.hd (impl_putTwo.lps k) (loopsOf (Go.Proofs.Try.f53.body.getD .skip)) := trivial
theorem impl_putTwo.den (k : Nat) (x : Sig.In impl_putTwo.sg.ps) : denFn impl_putTwo.E k Go.Proofs.Try.f53 impl_putTwo.sg impl_putTwo.hd (runL k impl_putTwo.hd (impl_putTwo.lps k)) x = impl_putTwo.F k x := by kernel_rfl
theorem impl_putTwo.ok (k : Nat) : Contract Try.prog 53 impl_putTwo.sg (impl_putTwo.F k) := ok_of (E := impl_putTwo.E) (tysOk _ _) (eqsOk _) trivial Try.func53 rfl (by kernel_rfl) (impl_putTwo.loops k) (impl_putTwo.den k)
def impl_size_byte.sg : Sig := ⟨[.b (.sl (.int .u8))], [((.int .i64), .rd)]⟩
def impl_size_byte.E : Env := ⟨tys, bys, [], eqs⟩
def impl_size_byte.F (k : Nat) (x : ((List Int) × Unit)) : Option ((Int × Unit) × Unit) :=
  some (((((List.length x.1) : Nat) : Int), ()), ())
def impl_size_byte.hd : Hints := ⟨[], [], [2], [0], []⟩
def impl_size_byte.lps (k : Nat) : List (Nat × Lp impl_size_byte.sg.Out) := []
theorem impl_size_byte.loops (k : Nat) : LoopsOk impl_size_byte.E k impl_size_byte.hd (impl_size_byte.lps k) (loopsOf (Go.Proofs.Try.f67.body.getD .skip)) := trivial
theorem impl_size_byte.den (k : Nat) (x : Sig.In impl_size_byte.sg.ps) : denFn impl_size_byte.E k Go.Proofs.Try.f67 impl_size_byte.sg impl_size_byte.hd (runL k impl_size_byte.hd (impl_size_byte.lps k)) x = impl_size_byte.F k x := by kernel_rfl
theorem impl_size_byte.ok (k : Nat) : Contract Try.prog 67 impl_size_byte.sg (impl_size_byte.F k) := ok_of (E := impl_size_byte.E) (tysOk _ _) (eqsOk _) trivial Try.func67 rfl (by kernel_rfl) (impl_size_byte.loops k) (impl_size_byte.den k)
def impl_packFrame.sg : Sig := ⟨[.b kBytesResult], [((.sl (.int .u8)), .dp)]⟩
def impl_packFrame.E : Env := ⟨tys, bys, [(53, ⟨impl_putTwo.sg, impl_putTwo.F⟩), (67, ⟨impl_size_byte.sg, impl_size_byte.F⟩)], eqs⟩
def impl_packFrame.F (k : Nat) (x : ((Int × ((List Int) × Unit)) × Unit)) : Option (((List Int) × Unit) × Unit) :=
  (impl_size_byte.F k x.1.2).bind fun y0 =>
  (impl_putTwo.F k ([(255 : Int), (255 : Int)], (IntKind.wrap .i64 ((5 : Int) + y0.1.1)), ())).bind fun y1 =>
  bif (Go.Dn.roomy ((List.length y1.1.1) + (List.length [(IntKind.wrap .u8 x.1.1)])) 1) then
  (Go.Dn.share (y1.1.1 ++ [(IntKind.wrap .u8 x.1.1)]) fun s2 =>
    bif (Go.Dn.roomy ((List.length s2) + (List.length x.1.2.1)) 1) then
    (Go.Dn.share (s2 ++ x.1.2.1) fun s3 =>
      some ((s3, ()), ()))
    else none)
  else none
def impl_packFrame.hd : Hints := ⟨[], [], [2], [0, 1, 3], [(1, [0, 0, 2, 6, 14, 31, 0, 64, 192, 448, 1023, 2047])]⟩
def impl_packFrame.lps (k : Nat) : List (Nat × Lp impl_packFrame.sg.Out) := []
theorem impl_packFrame.loops (k : Nat) : LoopsOk impl_packFrame.E k impl_packFrame.hd (impl_packFrame.lps k) (loopsOf (Go.Proofs.Try.f52.body.getD .skip)) := trivial
theorem impl_packFrame.den (k : Nat) (x : Sig.In impl_packFrame.sg.ps) : denFn impl_packFrame.E k Go.Proofs.Try.f52 impl_packFrame.sg impl_packFrame.hd (runL k impl_packFrame.hd (impl_packFrame.lps k)) x = impl_packFrame.F k x := by kernel_rfl
theorem impl_packFrame.ok (k : Nat) : Contract Try.prog 52 impl_packFrame.sg (impl_packFrame.F k) := ok_of (E := impl_packFrame.E) (tysOk _ _) (eqsOk _) ⟨impl_putTwo.ok k, impl_size_byte.ok k, trivial⟩ Try.func52 rfl (by kernel_rfl) (impl_packFrame.loops k) (impl_packFrame.den k)
def impl_PackFrame.sg : Sig := ⟨[.b kBytesResult], [(kBytesResult, .dp)]⟩
def impl_PackFrame.E : Env := ⟨tys, bys, [(51, ⟨impl_FrameFault.sg, impl_FrameFault.F⟩), (52, ⟨impl_packFrame.sg, impl_packFrame.F⟩)], eqs⟩
def impl_PackFrame.F (k : Nat) (x : ((Int × ((List Int) × Unit)) × Unit)) : Option (((Int × ((List Int) × Unit)) × Unit) × Unit) :=
  (impl_FrameFault.F k x).bind fun y0 =>
  bif (y0.1.1 != (0 : Int)) then
  (some (((y0.1.1, ([] : List Int), ()), ()), ()))
  else (impl_packFrame.F k x).bind fun y1 =>
    some ((((0 : Int), y1.1), ()), ())
def impl_PackFrame.hd : Hints := ⟨[], [], [2], [0, 1, 2, 3], []⟩
def impl_PackFrame.lps (k : Nat) : List (Nat × Lp impl_PackFrame.sg.Out) := []
theorem impl_PackFrame.loops (k : Nat) : LoopsOk impl_PackFrame.E k impl_PackFrame.hd (impl_PackFrame.lps k) (loopsOf (Go.Proofs.Try.f29.body.getD .skip)) := trivial
theorem impl_PackFrame.den (k : Nat) (x : Sig.In impl_PackFrame.sg.ps) : denFn impl_PackFrame.E k Go.Proofs.Try.f29 impl_PackFrame.sg impl_PackFrame.hd (runL k impl_PackFrame.hd (impl_PackFrame.lps k)) x = impl_PackFrame.F k x := by kernel_rfl
theorem impl_PackFrame.ok (k : Nat) : Contract Try.prog 29 impl_PackFrame.sg (impl_PackFrame.F k) := ok_of (E := impl_PackFrame.E) (tysOk _ _) (eqsOk _) ⟨impl_FrameFault.ok k, impl_packFrame.ok k, trivial⟩ Try.func29 rfl (by kernel_rfl) (impl_PackFrame.loops k) (impl_PackFrame.den k)
def impl_putPrefixes.sg : Sig := ⟨[.c (.int .u8) true, .b (.sl kPrefix)], [((.sl (.int .u8)), .dp)]⟩
def impl_putPrefixes.E : Env := ⟨tys, bys, [(53, ⟨impl_putTwo.sg, impl_putTwo.F⟩)], eqs⟩
def impl_putPrefixes.l2 {ρ : Type} (k : Nat) (c0 : (List Int × Unit) → Option ρ) : Nat → List (Int × (Int × Unit)) → Int → Int → List Int → Option ρ
  | 0 => fun _ _ _ _ => none
  | n + 1 => fun x0 x1 x2 x3 => 
    bif (decide ((x2 < x1))) then
    (bif (Go.Dn.inB x2 (((List.length x0) : Nat) : Int)) then
      (Go.Dn.share (List.getD x0 (Int.toNat x2) ((0 : Int), ((0 : Int), ()))) fun s0 =>
        (impl_putTwo.F k (x3, s0.1, ())).bind fun y1 =>
        bif (Go.Dn.roomy ((List.length y1.1.1) + (List.length [(IntKind.wrap .u8 s0.2.1)])) 1) then
        (Go.Dn.share (y1.1.1 ++ [(IntKind.wrap .u8 s0.2.1)]) fun s2 =>
          impl_putPrefixes.l2 k c0 n x0 x1 (IntKind.wrap .i64 (x2 + (1 : Int))) s2)
        else none)
      else none)
    else c0 (x3, ())
def impl_putPrefixes.F (k : Nat) (x : ((List Int) × ((List (Int × (Int × Unit))) × Unit))) : Option (((List Int) × Unit) × Unit) :=
  impl_putPrefixes.l2 k (fun e3 =>
    some (e3, ())) k x.2.1 (((List.length x.2.1) : Nat) : Int) (0 : Int) x.1
def impl_putPrefixes.hd : Hints := ⟨[(2, ⟨[0, 7, 8, 9], []⟩)], [(0, [0]), (1, [0, 7, 8, 9])], [4], [0, 1, 6, 7, 8, 9], [(4, [0, 0, 2, 7, 0, 16, 48, 112, 255, 511])]⟩
def impl_putPrefixes.lps (k : Nat) : List (Nat × Lp impl_putPrefixes.sg.Out) := [(2, ⟨[.l kPrefix, .i, .i, .l (.int .u8)], fun x => (fun x0 x1 x2 x3 => ⟨[(0, .v false [.arr 0]), (7, .v false [.fz kPrefix x0]), (8, .v false [.int .i64 x1]), (9, .v false [.int .i64 x2])], [(0, .arr (.int .u8) true false x3)], []⟩) x.1 x.2.1 x.2.2.1 x.2.2.2.1, fun C n x => impl_putPrefixes.l2 k (fun y => C (.exit 0) ((fun y0 => ⟨[(0, .v false [.arr 0])], [(0, .arr (.int .u8) true false y0)], []⟩) y.1)) n x.1 x.2.1 x.2.2.1 x.2.2.2.1⟩)]
theorem impl_putPrefixes.loops (k : Nat) : LoopsOk impl_putPrefixes.E k impl_putPrefixes.hd (impl_putPrefixes.lps k) (loopsOf (Go.Proofs.Try.f68.body.getD .skip)) := ⟨⟨fun _ _ => rfl, fun _ _ _ => by kernel_rfl, fun _ => ⟨rfl, rfl⟩⟩, trivial⟩
theorem impl_putPrefixes.den (k : Nat) (x : Sig.In impl_putPrefixes.sg.ps) : denFn impl_putPrefixes.E k Go.Proofs.Try.f68 impl_putPrefixes.sg impl_putPrefixes.hd (runL k impl_putPrefixes.hd (impl_putPrefixes.lps k)) x = impl_putPrefixes.F k x := by kernel_rfl
theorem impl_putPrefixes.ok (k : Nat) : Contract Try.prog 68 impl_putPrefixes.sg (impl_putPrefixes.F k) := ok_of (E := impl_putPrefixes.E) (tysOk _ _) (eqsOk _) ⟨impl_putTwo.ok k, trivial⟩ Try.func68 rfl (by kernel_rfl) (impl_putPrefixes.loops k) (impl_putPrefixes.den k)

end Go.Proofs.Ytopldlbnnnmpbaa
set_option linter.unusedVariables false
set_option maxRecDepth 100000
namespace Go.Proofs.Ytopldlbnnnmpbaa
open Go Go.Dn

def impl_packUpdate.sg : Sig := ⟨[.b kUpdate], [((.sl (.int .u8)), .dp)]⟩
def impl_packUpdate.E : Env := ⟨tys, bys, [(53, ⟨impl_putTwo.sg, impl_putTwo.F⟩), (68, ⟨impl_putPrefixes.sg, impl_putPrefixes.F⟩)], eqs⟩
def impl_packUpdate.l6 {ρ : Type} (k : Nat) (c0 : (List (Int × (Int × Unit)) × (Bool × (Int × (List Int × (Int × (Int × (Int × (List (Int × (Int × Unit)) × (List Int × Unit))))))))) → Option ρ) : Nat → List Int → Int → Int → List (Int × (Int × Unit)) → Bool → Int → List Int → Int → Int → Int → List (Int × (Int × Unit)) → List Int → Option ρ
  | 0 => fun _ _ _ _ _ _ _ _ _ _ _ _ => none
  | n + 1 => fun x0 x1 x2 x3 x4 x5 x6 x7 x8 x9 x10 x11 => 
    bif (decide ((x2 < x1))) then
    (bif (Go.Dn.inB x2 (((List.length x0) : Nat) : Int)) then
      (Go.Dn.share (List.getD x0 (Int.toNat x2) (0 : Int)) fun s2 =>
        (impl_putTwo.F k (x11, s2, ())).bind fun y3 =>
        impl_packUpdate.l6 k c0 n x0 x1 (IntKind.wrap .i64 (x2 + (1 : Int))) x3 x4 x5 x6 x7 x8 x9 x10 y3.1.1)
      else none)
    else c0 (x3, x4, x5, x6, x7, x8, x9, x10, x11, ())
def impl_packUpdate.F (k : Nat) (x : (((List (Int × (Int × Unit))) × (Bool × ((Int × ((List Int) × (Int × (Int × (Int × Unit))))) × ((List (Int × (Int × Unit))) × Unit)))) × Unit)) : Option (((List Int) × Unit) × Unit) :=
  (impl_putPrefixes.F k ([(IntKind.wrap .u8 (((List.length x.1.1) : Nat) : Int))], x.1.1, ())).bind fun y0 =>
  bif (!x.1.2.1) then
  (some y0)
  else bif (Go.Dn.roomy ((List.length y0.1.1) + (List.length [(IntKind.wrap .u8 (((List.length x.1.2.2.1.2.1) : Nat) : Int))])) 1) then
    (Go.Dn.share (y0.1.1 ++ [(IntKind.wrap .u8 (((List.length x.1.2.2.1.2.1) : Nat) : Int))]) fun s1 =>
      impl_packUpdate.l6 k (fun e4 =>
        bif (Go.Dn.roomy ((List.length e4.2.2.2.2.2.2.2.2.1) + (List.length [(IntKind.wrap .u8 e4.2.2.1)])) 1) then
        (Go.Dn.share (e4.2.2.2.2.2.2.2.2.1 ++ [(IntKind.wrap .u8 e4.2.2.1)]) fun s5 =>
          (impl_putTwo.F k (s5, e4.2.2.2.2.1, ())).bind fun y6 =>
          (impl_putTwo.F k (y6.1.1, e4.2.2.2.2.2.1, ())).bind fun y7 =>
          (impl_putTwo.F k (y7.1.1, e4.2.2.2.2.2.2.1, ())).bind fun y8 =>
          (impl_putPrefixes.F k (y8.1.1, e4.2.2.2.2.2.2.2.1, ())).bind fun y9 =>
          some y9)
        else none) k x.1.2.2.1.2.1 (((List.length x.1.2.2.1.2.1) : Nat) : Int) (0 : Int) x.1.1 x.1.2.1 x.1.2.2.1.1 x.1.2.2.1.2.1 x.1.2.2.1.2.2.1 x.1.2.2.1.2.2.2.1 x.1.2.2.1.2.2.2.2.1 x.1.2.2.2.1 s1)
    else none
def impl_packUpdate.hd : Hints := ⟨[(6, ⟨[1, 3, 28, 29, 30], []⟩)], [(0, [1, 3]), (1, [1, 3, 28, 29, 30])], [2], [0, 1, 3, 5, 28, 29, 30], [(11, [0, 0, 2, 6, 15, 0, 32, 96, 255, 0, 512, 1536, 4095, 8191])]⟩
def impl_packUpdate.lps (k : Nat) : List (Nat × Lp impl_packUpdate.sg.Out) := [(6, ⟨[.l (.int .i64), .i, .i, .l kPrefix, .b, .i, .l (.int .i64), .i, .i, .i, .l kPrefix, .l (.int .u8)], fun x => (fun x0 x1 x2 x3 x4 x5 x6 x7 x8 x9 x10 x11 => ⟨[(1, .v false [.box 0 0]), (3, .v false [.arr 2]), (28, .v false [.fz (.int .i64) x0]), (29, .v false [.int .i64 x1]), (30, .v false [.int .i64 x2])], [(0, .box [.fz kPrefix x3, .bool x4, .int .i64 x5, .fz (.int .i64) x6, .int .i64 x7, .int .i64 x8, .int .i64 x9, .fz kPrefix x10]), (2, .arr (.int .u8) true false x11)], []⟩) x.1 x.2.1 x.2.2.1 x.2.2.2.1 x.2.2.2.2.1 x.2.2.2.2.2.1 x.2.2.2.2.2.2.1 x.2.2.2.2.2.2.2.1 x.2.2.2.2.2.2.2.2.1 x.2.2.2.2.2.2.2.2.2.1 x.2.2.2.2.2.2.2.2.2.2.1 x.2.2.2.2.2.2.2.2.2.2.2.1, fun C n x => impl_packUpdate.l6 k (fun y => C (.exit 0) ((fun y0 y1 y2 y3 y4 y5 y6 y7 y8 => ⟨[(1, .v false [.box 0 0]), (3, .v false [.arr 2])], [(0, .box [.fz kPrefix y0, .bool y1, .int .i64 y2, .fz (.int .i64) y3, .int .i64 y4, .int .i64 y5, .int .i64 y6, .fz kPrefix y7]), (2, .arr (.int .u8) true false y8)], []⟩) y.1 y.2.1 y.2.2.1 y.2.2.2.1 y.2.2.2.2.1 y.2.2.2.2.2.1 y.2.2.2.2.2.2.1 y.2.2.2.2.2.2.2.1 y.2.2.2.2.2.2.2.2.1)) n x.1 x.2.1 x.2.2.1 x.2.2.2.1 x.2.2.2.2.1 x.2.2.2.2.2.1 x.2.2.2.2.2.2.1 x.2.2.2.2.2.2.2.1 x.2.2.2.2.2.2.2.2.1 x.2.2.2.2.2.2.2.2.2.1 x.2.2.2.2.2.2.2.2.2.2.1 x.2.2.2.2.2.2.2.2.2.2.2.1⟩)]
theorem impl_packUpdate.loops (k : Nat) : LoopsOk impl_packUpdate.E k impl_packUpdate.hd (impl_packUpdate.lps k) (loopsOf (Go.Proofs.Try.f54.body.getD .skip)) := ⟨⟨fun _ _ => rfl, fun _ _ _ => by kernel_rfl, fun _ => ⟨rfl, rfl⟩⟩, trivial⟩
theorem impl_packUpdate.den (k : Nat) (x : Sig.In impl_packUpdate.sg.ps) : denFn impl_packUpdate.E k Go.Proofs.Try.f54 impl_packUpdate.sg impl_packUpdate.hd (runL k impl_packUpdate.hd (impl_packUpdate.lps k)) x = impl_packUpdate.F k x := by kernel_rfl
theorem impl_packUpdate.ok (k : Nat) : Contract Try.prog 54 impl_packUpdate.sg (impl_packUpdate.F k) := ok_of (E := impl_packUpdate.E) (tysOk _ _) (eqsOk _) ⟨impl_putTwo.ok k, impl_putPrefixes.ok k, trivial⟩ Try.func54 rfl (by kernel_rfl) (impl_packUpdate.loops k) (impl_packUpdate.den k)
def impl_Message_frame.sg : Sig := ⟨[.b kMessage], [(kBytesResult, .dp)]⟩
def impl_Message_frame.E : Env := ⟨tys, bys, [(53, ⟨impl_putTwo.sg, impl_putTwo.F⟩), (54, ⟨impl_packUpdate.sg, impl_packUpdate.F⟩)], eqs⟩
def impl_Message_frame.F (k : Nat) (x : ((Int × (Int × (Int × (Int × (Int × (Int × (((List (Int × (Int × Unit))) × (Bool × ((Int × ((List Int) × (Int × (Int × (Int × Unit))))) × ((List (Int × (Int × Unit))) × Unit)))) × Unit))))))) × Unit)) : Option (((Int × ((List Int) × Unit)) × Unit) × Unit) :=
  bif (x.1.1 == (1 : Int)) then
  ((impl_putTwo.F k (([] : List Int), x.1.2.1, ())).bind fun y0 =>
    bif (Go.Dn.roomy ((List.length y0.1.1) + (List.length [(IntKind.wrap .u8 x.1.2.2.1)])) 1) then
    (Go.Dn.share (y0.1.1 ++ [(IntKind.wrap .u8 x.1.2.2.1)]) fun s1 =>
      (impl_putTwo.F k (s1, x.1.2.2.2.1, ())).bind fun y2 =>
      some (((x.1.1, y2.1), ()), ()))
    else none)
  else bif (x.1.1 == (3 : Int)) then
    (some (((x.1.1, [(IntKind.wrap .u8 x.1.2.2.2.2.1), (IntKind.wrap .u8 x.1.2.2.2.2.2.1)], ()), ()), ()))
    else bif (x.1.1 == (2 : Int)) then
      ((impl_packUpdate.F k x.1.2.2.2.2.2.2).bind fun y3 =>
        some (((x.1.1, y3.1), ()), ()))
      else some (((x.1.1, ([] : List Int), ()), ()), ())
def impl_Message_frame.hd : Hints := ⟨[], [(0, [2, 3])], [2], [0, 1, 2, 3, 8], [(4, [0, 1, 3, 0, 8, 24, 56, 127, 0, 256, 1023, 2047, 4095])]⟩
def impl_Message_frame.lps (k : Nat) : List (Nat × Lp impl_Message_frame.sg.Out) := []
theorem impl_Message_frame.loops (k : Nat) : LoopsOk impl_Message_frame.E k impl_Message_frame.hd (impl_Message_frame.lps k) (loopsOf (Go.Proofs.Try.f30.body.getD .skip)) := trivial
theorem impl_Message_frame.den (k : Nat) (x : Sig.In impl_Message_frame.sg.ps) : denFn impl_Message_frame.E k Go.Proofs.Try.f30 impl_Message_frame.sg impl_Message_frame.hd (runL k impl_Message_frame.hd (impl_Message_frame.lps k)) x = impl_Message_frame.F k x := by kernel_rfl
theorem impl_Message_frame.ok (k : Nat) : Contract Try.prog 30 impl_Message_frame.sg (impl_Message_frame.F k) := ok_of (E := impl_Message_frame.E) (tysOk _ _) (eqsOk _) ⟨impl_putTwo.ok k, impl_packUpdate.ok k, trivial⟩ Try.func30 rfl (by kernel_rfl) (impl_Message_frame.loops k) (impl_Message_frame.den k)
def impl_PackMessage.sg : Sig := ⟨[.b kMessage], [(kBytesResult, .dp)]⟩
def impl_PackMessage.E : Env := ⟨tys, bys, [(28, ⟨impl_MessageFault.sg, impl_MessageFault.F⟩), (29, ⟨impl_PackFrame.sg, impl_PackFrame.F⟩), (30, ⟨impl_Message_frame.sg, impl_Message_frame.F⟩)], eqs⟩
def impl_PackMessage.F (k : Nat) (x : ((Int × (Int × (Int × (Int × (Int × (Int × (((List (Int × (Int × Unit))) × (Bool × ((Int × ((List Int) × (Int × (Int × (Int × Unit))))) × ((List (Int × (Int × Unit))) × Unit)))) × Unit))))))) × Unit)) : Option (((Int × ((List Int) × Unit)) × Unit) × Unit) :=
  (impl_MessageFault.F k x).bind fun y0 =>
  bif (y0.1.1 != (0 : Int)) then
  (some (((y0.1.1, ([] : List Int), ()), ()), ()))
  else (impl_Message_frame.F k x).bind fun y1 =>
    (impl_PackFrame.F k y1.1).bind fun y2 =>
    some y2
def impl_PackMessage.hd : Hints := ⟨[], [], [2], [0, 1, 2, 3], []⟩
def impl_PackMessage.lps (k : Nat) : List (Nat × Lp impl_PackMessage.sg.Out) := []
theorem impl_PackMessage.loops (k : Nat) : LoopsOk impl_PackMessage.E k impl_PackMessage.hd (impl_PackMessage.lps k) (loopsOf (Go.Proofs.Try.f16.body.getD .skip)) := trivial
theorem impl_PackMessage.den (k : Nat) (x : Sig.In impl_PackMessage.sg.ps) : denFn impl_PackMessage.E k Go.Proofs.Try.f16 impl_PackMessage.sg impl_PackMessage.hd (runL k impl_PackMessage.hd (impl_PackMessage.lps k)) x = impl_PackMessage.F k x := by kernel_rfl
theorem impl_PackMessage.ok (k : Nat) : Contract Try.prog 16 impl_PackMessage.sg (impl_PackMessage.F k) := ok_of (E := impl_PackMessage.E) (tysOk _ _) (eqsOk _) ⟨impl_MessageFault.ok k, impl_PackFrame.ok k, impl_Message_frame.ok k, trivial⟩ Try.func16 rfl (by kernel_rfl) (impl_PackMessage.loops k) (impl_PackMessage.den k)
def impl_SayText.sg : Sig := ⟨[.b kMessage], [(kBytesResult, .dp)]⟩
def impl_SayText.E : Env := ⟨tys, bys, [(16, ⟨impl_PackMessage.sg, impl_PackMessage.F⟩)], eqs⟩
def impl_SayText.F (k : Nat) (x : ((Int × (Int × (Int × (Int × (Int × (Int × (((List (Int × (Int × Unit))) × (Bool × ((Int × ((List Int) × (Int × (Int × (Int × Unit))))) × ((List (Int × (Int × Unit))) × Unit)))) × Unit))))))) × Unit)) : Option (((Int × ((List Int) × Unit)) × Unit) × Unit) :=
  (impl_PackMessage.F k x).bind fun y0 =>
  some y0
def impl_SayText.hd : Hints := ⟨[], [], [2], [0, 1, 2], []⟩
def impl_SayText.lps (k : Nat) : List (Nat × Lp impl_SayText.sg.Out) := []
theorem impl_SayText.loops (k : Nat) : LoopsOk impl_SayText.E k impl_SayText.hd (impl_SayText.lps k) (loopsOf (Go.Proofs.Try.f7.body.getD .skip)) := trivial
theorem impl_SayText.den (k : Nat) (x : Sig.In impl_SayText.sg.ps) : denFn impl_SayText.E k Go.Proofs.Try.f7 impl_SayText.sg impl_SayText.hd (runL k impl_SayText.hd (impl_SayText.lps k)) x = impl_SayText.F k x := by kernel_rfl
theorem impl_SayText.ok (k : Nat) : Contract Try.prog 7 impl_SayText.sg (impl_SayText.F k) := ok_of (E := impl_SayText.E) (tysOk _ _) (eqsOk _) ⟨impl_PackMessage.ok k, trivial⟩ Try.func7 rfl (by kernel_rfl) (impl_SayText.loops k) (impl_SayText.den k)
def laws_eqByteS.sg : Sig := ⟨[.b (.sl (.int .u8)), .b (.sl (.int .u8))], [(.bool, .rd)]⟩
def laws_eqByteS.E : Env := ⟨tys, bys, [], eqs⟩
def laws_eqByteS.l4 {ρ : Type} (k : Nat) (c0 : (Bool × Unit) → Option ρ) (c1 : Unit → Option ρ) : Nat → List Int → List Int → Int → Option ρ
  | 0 => fun _ _ _ => none
  | n + 1 => fun x0 x1 x2 => 
    bif (decide ((x2 < (((List.length x0) : Nat) : Int)))) then
    (bif (Go.Dn.inB x2 (((List.length x0) : Nat) : Int)) then
      (Go.Dn.share (List.getD x0 (Int.toNat x2) (0 : Int)) fun s0 =>
        bif (Go.Dn.inB x2 (((List.length x1) : Nat) : Int)) then
        (Go.Dn.share (List.getD x1 (Int.toNat x2) (0 : Int)) fun s1 =>
          bif (s0 != s1) then
          (c0 (false, ()))
          else laws_eqByteS.l4 k c0 c1 n x0 x1 (IntKind.wrap .i64 (x2 + (1 : Int))))
        else none)
      else none)
    else c1 (())
def laws_eqByteS.F (k : Nat) (x : ((List Int) × ((List Int) × Unit))) : Option ((Bool × Unit) × Unit) :=
  bif ((((List.length x.1) : Nat) : Int) != (((List.length x.2.1) : Nat) : Int)) then
  (some ((false, ()), ()))
  else laws_eqByteS.l4 k (fun e2 =>
      some (e2, ())) (fun e3 =>
      some ((true, ()), ())) k x.1 x.2.1 (0 : Int)
def laws_eqByteS.hd : Hints := ⟨[(4, ⟨[0, 1, 5], []⟩)], [(0, []), (1, [0, 1, 5])], [4], [0, 1, 5], [(6, [0, 0, 3, 7, 0, 0, 48, 112, 255])]⟩
def laws_eqByteS.lps (k : Nat) : List (Nat × Lp laws_eqByteS.sg.Out) := [(4, ⟨[.l (.int .u8), .l (.int .u8), .i], fun x => (fun x0 x1 x2 => ⟨[(0, .v false [.fz (.int .u8) x0]), (1, .v false [.fz (.int .u8) x1]), (5, .v false [.int .i64 x2])], [], []⟩) x.1 x.2.1 x.2.2.1, fun C n x => laws_eqByteS.l4 k (fun y => C .ret ((fun y0 => ⟨[(4, .v false [.bool y0])], [], []⟩) y.1)) (fun _ => C (.exit 0) ⟨[], [], []⟩) n x.1 x.2.1 x.2.2.1⟩)]
theorem laws_eqByteS.loops (k : Nat) : LoopsOk laws_eqByteS.E k laws_eqByteS.hd (laws_eqByteS.lps k) (loopsOf (Go.Proofs.Try.f17.body.getD .skip)) := ⟨⟨fun _ _ => rfl, fun _ _ _ => by kernel_rfl, fun _ => ⟨rfl, rfl⟩⟩, trivial⟩
theorem laws_eqByteS.den (k : Nat) (x : Sig.In laws_eqByteS.sg.ps) : denFn laws_eqByteS.E k Go.Proofs.Try.f17 laws_eqByteS.sg laws_eqByteS.hd (runL k laws_eqByteS.hd (laws_eqByteS.lps k)) x = laws_eqByteS.F k x := by kernel_rfl
theorem laws_eqByteS.ok (k : Nat) : Contract Try.prog 17 laws_eqByteS.sg (laws_eqByteS.F k) := ok_of (E := laws_eqByteS.E) (tysOk _ _) (eqsOk _) trivial Try.func17 rfl (by kernel_rfl) (laws_eqByteS.loops k) (laws_eqByteS.den k)
def laws_eqBytesResult.sg : Sig := ⟨[.b kBytesResult, .b kBytesResult], [(.bool, .rd)]⟩
def laws_eqBytesResult.E : Env := ⟨tys, bys, [(17, ⟨laws_eqByteS.sg, laws_eqByteS.F⟩)], eqs⟩
def laws_eqBytesResult.F (k : Nat) (x : ((Int × ((List Int) × Unit)) × ((Int × ((List Int) × Unit)) × Unit))) : Option ((Bool × Unit) × Unit) :=
  bif (x.1.1 != x.2.1.1) then
  (some ((false, ()), ()))
  else (laws_eqByteS.F k (x.1.2.1, x.2.1.2)).bind fun y0 =>
    bif (!y0.1.1) then
    (some ((false, ()), ()))
    else some ((true, ()), ())
def laws_eqBytesResult.hd : Hints := ⟨[], [], [4], [0, 1, 2, 3], []⟩
def laws_eqBytesResult.lps (k : Nat) : List (Nat × Lp laws_eqBytesResult.sg.Out) := []
theorem laws_eqBytesResult.loops (k : Nat) : LoopsOk laws_eqBytesResult.E k laws_eqBytesResult.hd (laws_eqBytesResult.lps k) (loopsOf (Go.Proofs.Try.f8.body.getD .skip)) := trivial
theorem laws_eqBytesResult.den (k : Nat) (x : Sig.In laws_eqBytesResult.sg.ps) : denFn laws_eqBytesResult.E k Go.Proofs.Try.f8 laws_eqBytesResult.sg laws_eqBytesResult.hd (runL k laws_eqBytesResult.hd (laws_eqBytesResult.lps k)) x = laws_eqBytesResult.F k x := by kernel_rfl
theorem laws_eqBytesResult.ok (k : Nat) : Contract Try.prog 8 laws_eqBytesResult.sg (laws_eqBytesResult.F k) := ok_of (E := laws_eqBytesResult.E) (tysOk _ _) (eqsOk _) ⟨laws_eqByteS.ok k, trivial⟩ Try.func8 rfl (by kernel_rfl) (laws_eqBytesResult.loops k) (laws_eqBytesResult.den k)
def laws_eqPrefix.sg : Sig := ⟨[.b kPrefix, .b kPrefix], [(.bool, .rd)]⟩
def laws_eqPrefix.E : Env := ⟨tys, bys, [], eqs⟩
def laws_eqPrefix.F (k : Nat) (x : ((Int × (Int × Unit)) × ((Int × (Int × Unit)) × Unit))) : Option ((Bool × Unit) × Unit) :=
  bif (x.1.1 != x.2.1.1) then
  (some ((false, ()), ()))
  else bif (x.1.2.1 != x.2.1.2.1) then
    (some ((false, ()), ()))
    else some ((true, ()), ())
def laws_eqPrefix.hd : Hints := ⟨[], [], [4], [0, 1, 2, 3], []⟩
def laws_eqPrefix.lps (k : Nat) : List (Nat × Lp laws_eqPrefix.sg.Out) := []
theorem laws_eqPrefix.loops (k : Nat) : LoopsOk laws_eqPrefix.E k laws_eqPrefix.hd (laws_eqPrefix.lps k) (loopsOf (Go.Proofs.Try.f55.body.getD .skip)) := trivial
theorem laws_eqPrefix.den (k : Nat) (x : Sig.In laws_eqPrefix.sg.ps) : denFn laws_eqPrefix.E k Go.Proofs.Try.f55 laws_eqPrefix.sg laws_eqPrefix.hd (runL k laws_eqPrefix.hd (laws_eqPrefix.lps k)) x = laws_eqPrefix.F k x := by kernel_rfl
theorem laws_eqPrefix.ok (k : Nat) : Contract Try.prog 55 laws_eqPrefix.sg (laws_eqPrefix.F k) := ok_of (E := laws_eqPrefix.E) (tysOk _ _) (eqsOk _) trivial Try.func55 rfl (by kernel_rfl) (laws_eqPrefix.loops k) (laws_eqPrefix.den k)
def laws_eqPrefixS.sg : Sig := ⟨[.b (.sl kPrefix), .b (.sl kPrefix)], [(.bool, .rd)]⟩
def laws_eqPrefixS.E : Env := ⟨tys, bys, [(55, ⟨laws_eqPrefix.sg, laws_eqPrefix.F⟩)], eqs⟩
def laws_eqPrefixS.l4 {ρ : Type} (k : Nat) (c0 : (Bool × Unit) → Option ρ) (c1 : Unit → Option ρ) : Nat → List (Int × (Int × Unit)) → List (Int × (Int × Unit)) → Int → Option ρ
  | 0 => fun _ _ _ => none
  | n + 1 => fun x0 x1 x2 => 
    bif (decide ((x2 < (((List.length x0) : Nat) : Int)))) then
    (bif (Go.Dn.inB x2 (((List.length x0) : Nat) : Int)) then
      (Go.Dn.share (List.getD x0 (Int.toNat x2) ((0 : Int), ((0 : Int), ()))) fun s0 =>
        bif (Go.Dn.inB x2 (((List.length x1) : Nat) : Int)) then
        (Go.Dn.share (List.getD x1 (Int.toNat x2) ((0 : Int), ((0 : Int), ()))) fun s1 =>
          (laws_eqPrefix.F k (s0, s1, ())).bind fun y2 =>
          bif (!y2.1.1) then
          (c0 (false, ()))
          else laws_eqPrefixS.l4 k c0 c1 n x0 x1 (IntKind.wrap .i64 (x2 + (1 : Int))))
        else none)
      else none)
    else c1 (())
def laws_eqPrefixS.F (k : Nat) (x : ((List (Int × (Int × Unit))) × ((List (Int × (Int × Unit))) × Unit))) : Option ((Bool × Unit) × Unit) :=
  bif ((((List.length x.1) : Nat) : Int) != (((List.length x.2.1) : Nat) : Int)) then
  (some ((false, ()), ()))
  else laws_eqPrefixS.l4 k (fun e3 =>
      some (e3, ())) (fun e4 =>
      some ((true, ()), ())) k x.1 x.2.1 (0 : Int)
def laws_eqPrefixS.hd : Hints := ⟨[(4, ⟨[0, 1, 5], []⟩)], [(0, []), (1, [0, 1, 5])], [4], [0, 1, 5], [(6, [0, 0, 3, 7, 0, 0, 48, 112, 255, 511])]⟩
def laws_eqPrefixS.lps (k : Nat) : List (Nat × Lp laws_eqPrefixS.sg.Out) := [(4, ⟨[.l kPrefix, .l kPrefix, .i], fun x => (fun x0 x1 x2 => ⟨[(0, .v false [.fz kPrefix x0]), (1, .v false [.fz kPrefix x1]), (5, .v false [.int .i64 x2])], [], []⟩) x.1 x.2.1 x.2.2.1, fun C n x => laws_eqPrefixS.l4 k (fun y => C .ret ((fun y0 => ⟨[(4, .v false [.bool y0])], [], []⟩) y.1)) (fun _ => C (.exit 0) ⟨[], [], []⟩) n x.1 x.2.1 x.2.2.1⟩)]
theorem laws_eqPrefixS.loops (k : Nat) : LoopsOk laws_eqPrefixS.E k laws_eqPrefixS.hd (laws_eqPrefixS.lps k) (loopsOf (Go.Proofs.Try.f31.body.getD .skip)) := ⟨⟨fun _ _ => rfl, fun _ _ _ => by kernel_rfl, fun _ => ⟨rfl, rfl⟩⟩, trivial⟩
theorem laws_eqPrefixS.den (k : Nat) (x : Sig.In laws_eqPrefixS.sg.ps) : denFn laws_eqPrefixS.E k Go.Proofs.Try.f31 laws_eqPrefixS.sg laws_eqPrefixS.hd (runL k laws_eqPrefixS.hd (laws_eqPrefixS.lps k)) x = laws_eqPrefixS.F k x := by kernel_rfl
theorem laws_eqPrefixS.ok (k : Nat) : Contract Try.prog 31 laws_eqPrefixS.sg (laws_eqPrefixS.F k) := ok_of (E := laws_eqPrefixS.E) (tysOk _ _) (eqsOk _) ⟨laws_eqPrefix.ok k, trivial⟩ Try.func31 rfl (by kernel_rfl) (laws_eqPrefixS.loops k) (laws_eqPrefixS.den k)
def laws_eqInt64S.sg : Sig := ⟨[.b (.sl (.int .i64)), .b (.sl (.int .i64))], [(.bool, .rd)]⟩
def laws_eqInt64S.E : Env := ⟨tys, bys, [], eqs⟩
def laws_eqInt64S.l4 {ρ : Type} (k : Nat) (c0 : (Bool × Unit) → Option ρ) (c1 : Unit → Option ρ) : Nat → List Int → List Int → Int → Option ρ
  | 0 => fun _ _ _ => none
  | n + 1 => fun x0 x1 x2 => 
    bif (decide ((x2 < (((List.length x0) : Nat) : Int)))) then
    (bif (Go.Dn.inB x2 (((List.length x0) : Nat) : Int)) then
      (Go.Dn.share (List.getD x0 (Int.toNat x2) (0 : Int)) fun s0 =>
        bif (Go.Dn.inB x2 (((List.length x1) : Nat) : Int)) then
        (Go.Dn.share (List.getD x1 (Int.toNat x2) (0 : Int)) fun s1 =>
          bif (s0 != s1) then
          (c0 (false, ()))
          else laws_eqInt64S.l4 k c0 c1 n x0 x1 (IntKind.wrap .i64 (x2 + (1 : Int))))
        else none)
      else none)
    else c1 (())
def laws_eqInt64S.F (k : Nat) (x : ((List Int) × ((List Int) × Unit))) : Option ((Bool × Unit) × Unit) :=
  bif ((((List.length x.1) : Nat) : Int) != (((List.length x.2.1) : Nat) : Int)) then
  (some ((false, ()), ()))
  else laws_eqInt64S.l4 k (fun e2 =>
      some (e2, ())) (fun e3 =>
      some ((true, ()), ())) k x.1 x.2.1 (0 : Int)
def laws_eqInt64S.hd : Hints := ⟨[(4, ⟨[0, 1, 5], []⟩)], [(0, []), (1, [0, 1, 5])], [4], [0, 1, 5], [(6, [0, 0, 3, 7, 0, 0, 48, 112, 255])]⟩
def laws_eqInt64S.lps (k : Nat) : List (Nat × Lp laws_eqInt64S.sg.Out) := [(4, ⟨[.l (.int .i64), .l (.int .i64), .i], fun x => (fun x0 x1 x2 => ⟨[(0, .v false [.fz (.int .i64) x0]), (1, .v false [.fz (.int .i64) x1]), (5, .v false [.int .i64 x2])], [], []⟩) x.1 x.2.1 x.2.2.1, fun C n x => laws_eqInt64S.l4 k (fun y => C .ret ((fun y0 => ⟨[(4, .v false [.bool y0])], [], []⟩) y.1)) (fun _ => C (.exit 0) ⟨[], [], []⟩) n x.1 x.2.1 x.2.2.1⟩)]
theorem laws_eqInt64S.loops (k : Nat) : LoopsOk laws_eqInt64S.E k laws_eqInt64S.hd (laws_eqInt64S.lps k) (loopsOf (Go.Proofs.Try.f56.body.getD .skip)) := ⟨⟨fun _ _ => rfl, fun _ _ _ => by kernel_rfl, fun _ => ⟨rfl, rfl⟩⟩, trivial⟩
theorem laws_eqInt64S.den (k : Nat) (x : Sig.In laws_eqInt64S.sg.ps) : denFn laws_eqInt64S.E k Go.Proofs.Try.f56 laws_eqInt64S.sg laws_eqInt64S.hd (runL k laws_eqInt64S.hd (laws_eqInt64S.lps k)) x = laws_eqInt64S.F k x := by kernel_rfl
theorem laws_eqInt64S.ok (k : Nat) : Contract Try.prog 56 laws_eqInt64S.sg (laws_eqInt64S.F k) := ok_of (E := laws_eqInt64S.E) (tysOk _ _) (eqsOk _) trivial Try.func56 rfl (by kernel_rfl) (laws_eqInt64S.loops k) (laws_eqInt64S.den k)
def laws_eqAttrs.sg : Sig := ⟨[.b kAttrs, .b kAttrs], [(.bool, .rd)]⟩
def laws_eqAttrs.E : Env := ⟨tys, bys, [(56, ⟨laws_eqInt64S.sg, laws_eqInt64S.F⟩)], eqs⟩
def laws_eqAttrs.F (k : Nat) (x : ((Int × ((List Int) × (Int × (Int × (Int × Unit))))) × ((Int × ((List Int) × (Int × (Int × (Int × Unit))))) × Unit))) : Option ((Bool × Unit) × Unit) :=
  bif (x.1.1 != x.2.1.1) then
  (some ((false, ()), ()))
  else (laws_eqInt64S.F k (x.1.2.1, x.2.1.2.1, ())).bind fun y0 =>
    bif (!y0.1.1) then
    (some ((false, ()), ()))
    else bif (x.1.2.2.1 != x.2.1.2.2.1) then
      (some ((false, ()), ()))
      else bif (x.1.2.2.2.1 != x.2.1.2.2.2.1) then
        (some ((false, ()), ()))
        else bif (x.1.2.2.2.2.1 != x.2.1.2.2.2.2.1) then
          (some ((false, ()), ()))
          else some ((true, ()), ())
def laws_eqAttrs.hd : Hints := ⟨[], [], [4], [0, 1, 2, 3], []⟩
def laws_eqAttrs.lps (k : Nat) : List (Nat × Lp laws_eqAttrs.sg.Out) := []
theorem laws_eqAttrs.loops (k : Nat) : LoopsOk laws_eqAttrs.E k laws_eqAttrs.hd (laws_eqAttrs.lps k) (loopsOf (Go.Proofs.Try.f32.body.getD .skip)) := trivial
theorem laws_eqAttrs.den (k : Nat) (x : Sig.In laws_eqAttrs.sg.ps) : denFn laws_eqAttrs.E k Go.Proofs.Try.f32 laws_eqAttrs.sg laws_eqAttrs.hd (runL k laws_eqAttrs.hd (laws_eqAttrs.lps k)) x = laws_eqAttrs.F k x := by kernel_rfl
theorem laws_eqAttrs.ok (k : Nat) : Contract Try.prog 32 laws_eqAttrs.sg (laws_eqAttrs.F k) := ok_of (E := laws_eqAttrs.E) (tysOk _ _) (eqsOk _) ⟨laws_eqInt64S.ok k, trivial⟩ Try.func32 rfl (by kernel_rfl) (laws_eqAttrs.loops k) (laws_eqAttrs.den k)
def laws_eqUpdate.sg : Sig := ⟨[.b kUpdate, .b kUpdate], [(.bool, .rd)]⟩
def laws_eqUpdate.E : Env := ⟨tys, bys, [(31, ⟨laws_eqPrefixS.sg, laws_eqPrefixS.F⟩), (32, ⟨laws_eqAttrs.sg, laws_eqAttrs.F⟩)], eqs⟩
def laws_eqUpdate.F (k : Nat) (x : (((List (Int × (Int × Unit))) × (Bool × ((Int × ((List Int) × (Int × (Int × (Int × Unit))))) × ((List (Int × (Int × Unit))) × Unit)))) × (((List (Int × (Int × Unit))) × (Bool × ((Int × ((List Int) × (Int × (Int × (Int × Unit))))) × ((List (Int × (Int × Unit))) × Unit)))) × Unit))) : Option ((Bool × Unit) × Unit) :=
  (laws_eqPrefixS.F k (x.1.1, x.2.1.1, ())).bind fun y0 =>
  bif (!y0.1.1) then
  (some ((false, ()), ()))
  else bif (!(x.1.2.1 == x.2.1.2.1)) then
    (some ((false, ()), ()))
    else (laws_eqAttrs.F k (x.1.2.2.1, x.2.1.2.2.1, ())).bind fun y1 =>
      bif (!y1.1.1) then
      (some ((false, ()), ()))
      else (laws_eqPrefixS.F k (x.1.2.2.2.1, x.2.1.2.2.2)).bind fun y2 =>
        bif (!y2.1.1) then
        (some ((false, ()), ()))
        else some ((true, ()), ())
def laws_eqUpdate.hd : Hints := ⟨[], [], [4], [0, 1, 2, 3], []⟩
def laws_eqUpdate.lps (k : Nat) : List (Nat × Lp laws_eqUpdate.sg.Out) := []
theorem laws_eqUpdate.loops (k : Nat) : LoopsOk laws_eqUpdate.E k laws_eqUpdate.hd (laws_eqUpdate.lps k) (loopsOf (Go.Proofs.Try.f18.body.getD .skip)) := trivial
theorem laws_eqUpdate.den (k : Nat) (x : Sig.In laws_eqUpdate.sg.ps) : denFn laws_eqUpdate.E k Go.Proofs.Try.f18 laws_eqUpdate.sg laws_eqUpdate.hd (runL k laws_eqUpdate.hd (laws_eqUpdate.lps k)) x = laws_eqUpdate.F k x := by kernel_rfl
theorem laws_eqUpdate.ok (k : Nat) : Contract Try.prog 18 laws_eqUpdate.sg (laws_eqUpdate.F k) := ok_of (E := laws_eqUpdate.E) (tysOk _ _) (eqsOk _) ⟨laws_eqPrefixS.ok k, laws_eqAttrs.ok k, trivial⟩ Try.func18 rfl (by kernel_rfl) (laws_eqUpdate.loops k) (laws_eqUpdate.den k)
def laws_eqMessage.sg : Sig := ⟨[.b kMessage, .b kMessage], [(.bool, .rd)]⟩
def laws_eqMessage.E : Env := ⟨tys, bys, [(18, ⟨laws_eqUpdate.sg, laws_eqUpdate.F⟩)], eqs⟩
def laws_eqMessage.F (k : Nat) (x : ((Int × (Int × (Int × (Int × (Int × (Int × (((List (Int × (Int × Unit))) × (Bool × ((Int × ((List Int) × (Int × (Int × (Int × Unit))))) × ((List (Int × (Int × Unit))) × Unit)))) × Unit))))))) × ((Int × (Int × (Int × (Int × (Int × (Int × (((List (Int × (Int × Unit))) × (Bool × ((Int × ((List Int) × (Int × (Int × (Int × Unit))))) × ((List (Int × (Int × Unit))) × Unit)))) × Unit))))))) × Unit))) : Option ((Bool × Unit) × Unit) :=
  bif (x.1.1 != x.2.1.1) then
  (some ((false, ()), ()))
  else bif (x.1.2.1 != x.2.1.2.1) then
    (some ((false, ()), ()))
    else bif (x.1.2.2.1 != x.2.1.2.2.1) then
      (some ((false, ()), ()))
      else bif (x.1.2.2.2.1 != x.2.1.2.2.2.1) then
        (some ((false, ()), ()))
        else bif (x.1.2.2.2.2.1 != x.2.1.2.2.2.2.1) then
          (some ((false, ()), ()))
          else bif (x.1.2.2.2.2.2.1 != x.2.1.2.2.2.2.2.1) then
            (some ((false, ()), ()))
            else (laws_eqUpdate.F k (x.1.2.2.2.2.2.2.1, x.2.1.2.2.2.2.2.2)).bind fun y0 =>
              bif (!y0.1.1) then
              (some ((false, ()), ()))
              else some ((true, ()), ())
def laws_eqMessage.hd : Hints := ⟨[], [], [4], [0, 1, 2, 3], []⟩
def laws_eqMessage.lps (k : Nat) : List (Nat × Lp laws_eqMessage.sg.Out) := []
theorem laws_eqMessage.loops (k : Nat) : LoopsOk laws_eqMessage.E k laws_eqMessage.hd (laws_eqMessage.lps k) (loopsOf (Go.Proofs.Try.f9.body.getD .skip)) := trivial
theorem laws_eqMessage.den (k : Nat) (x : Sig.In laws_eqMessage.sg.ps) : denFn laws_eqMessage.E k Go.Proofs.Try.f9 laws_eqMessage.sg laws_eqMessage.hd (runL k laws_eqMessage.hd (laws_eqMessage.lps k)) x = laws_eqMessage.F k x := by kernel_rfl
theorem laws_eqMessage.ok (k : Nat) : Contract Try.prog 9 laws_eqMessage.sg (laws_eqMessage.F k) := ok_of (E := laws_eqMessage.E) (tysOk _ _) (eqsOk _) ⟨laws_eqUpdate.ok k, trivial⟩ Try.func9 rfl (by kernel_rfl) (laws_eqMessage.loops k) (laws_eqMessage.den k)
def laws_markPrefixS.sg : Sig := ⟨[.m (.sl kPrefix), .b (.int .i64)], [((.int .i64), .rd)]⟩
def laws_markPrefixS.E : Env := ⟨tys, bys, [], eqs⟩
def laws_markPrefixS.l2 {ρ : Type} (k : Nat) (c0 : (Int × (List (Int × (Int × Unit)) × Unit)) → Option ρ) : Nat → Int → Int → List (Int × (Int × Unit)) → Option ρ
  | 0 => fun _ _ _ => none
  | n + 1 => fun x0 x1 x2 => 
    bif (decide ((x1 < (((List.length x2) : Nat) : Int)))) then
    (bif (Go.Dn.inB x1 (((List.length x2) : Nat) : Int)) then
      (Go.Dn.share (List.set x2 (Int.toNat x1) (x0, (List.getD x2 (Int.toNat x1) ((0 : Int), ((0 : Int), ()))).2)) fun s0 =>
        bif (Go.Dn.inB x1 (((List.length s0) : Nat) : Int)) then
        (Go.Dn.share (List.set s0 (Int.toNat x1) ((List.getD s0 (Int.toNat x1) ((0 : Int), ((0 : Int), ()))).1, (IntKind.wrap .i64 (x0 + (1 : Int))), (List.getD s0 (Int.toNat x1) ((0 : Int), ((0 : Int), ()))).2.2)) fun s1 =>
          laws_markPrefixS.l2 k c0 n (IntKind.wrap .i64 ((IntKind.wrap .i64 (x0 + (1 : Int))) + (1 : Int))) (IntKind.wrap .i64 (x1 + (1 : Int))) s1)
        else none)
      else none)
    else c0 (x0, x2, ())
def laws_markPrefixS.F (k : Nat) (x : ((List (Int × (Int × Unit))) × (Int × Unit))) : Option ((Int × Unit) × ((List (Int × (Int × Unit))) × Unit)) :=
  laws_markPrefixS.l2 k (fun e2 =>
    some ((e2.1, ()), e2.2)) k x.2.1 (0 : Int) x.1
def laws_markPrefixS.hd : Hints := ⟨[(2, ⟨[0, 1, 5], []⟩)], [(0, [1]), (1, [0, 1, 5])], [4], [0, 1, 5], []⟩
def laws_markPrefixS.lps (k : Nat) : List (Nat × Lp laws_markPrefixS.sg.Out) := [(2, ⟨[.i, .i, .l kPrefix], fun x => (fun x0 x1 x2 => ⟨[(0, .v false [.arr 0]), (1, .v false [.int .i64 x0]), (5, .v false [.int .i64 x1])], [(0, .arr kPrefix true false x2)], [.arr 0]⟩) x.1 x.2.1 x.2.2.1, fun C n x => laws_markPrefixS.l2 k (fun y => C (.exit 0) ((fun y0 y1 => ⟨[(1, .v false [.int .i64 y0])], [(0, .arr kPrefix true false y1)], [.arr 0]⟩) y.1 y.2.1)) n x.1 x.2.1 x.2.2.1⟩)]
theorem laws_markPrefixS.loops (k : Nat) : LoopsOk laws_markPrefixS.E k laws_markPrefixS.hd (laws_markPrefixS.lps k) (loopsOf (Go.Proofs.Try.f33.body.getD .skip)) := ⟨⟨fun _ _ => rfl, fun _ _ _ => by kernel_rfl, fun _ => ⟨rfl, rfl⟩⟩, trivial⟩
theorem laws_markPrefixS.den (k : Nat) (x : Sig.In laws_markPrefixS.sg.ps) : denFn laws_markPrefixS.E k Go.Proofs.Try.f33 laws_markPrefixS.sg laws_markPrefixS.hd (runL k laws_markPrefixS.hd (laws_markPrefixS.lps k)) x = laws_markPrefixS.F k x := by kernel_rfl
theorem laws_markPrefixS.ok (k : Nat) : Contract Try.prog 33 laws_markPrefixS.sg (laws_markPrefixS.F k) := ok_of (E := laws_markPrefixS.E) (tysOk _ _) (eqsOk _) trivial Try.func33 rfl (by kernel_rfl) (laws_markPrefixS.loops k) (laws_markPrefixS.den k)
def laws_markInt64S.sg : Sig := ⟨[.m (.sl (.int .i64)), .b (.int .i64)], [((.int .i64), .rd)]⟩
def laws_markInt64S.E : Env := ⟨tys, bys, [], eqs⟩
def laws_markInt64S.l2 {ρ : Type} (k : Nat) (c0 : (Int × (List Int × Unit)) → Option ρ) : Nat → Int → Int → List Int → Option ρ
  | 0 => fun _ _ _ => none
  | n + 1 => fun x0 x1 x2 => 
    bif (decide ((x1 < (((List.length x2) : Nat) : Int)))) then
    (bif (Go.Dn.inB x1 (((List.length x2) : Nat) : Int)) then
      (Go.Dn.share (List.set x2 (Int.toNat x1) x0) fun s0 =>
        laws_markInt64S.l2 k c0 n (IntKind.wrap .i64 (x0 + (1 : Int))) (IntKind.wrap .i64 (x1 + (1 : Int))) s0)
      else none)
    else c0 (x0, x2, ())
def laws_markInt64S.F (k : Nat) (x : ((List Int) × (Int × Unit))) : Option ((Int × Unit) × ((List Int) × Unit)) :=
  laws_markInt64S.l2 k (fun e1 =>
    some ((e1.1, ()), e1.2)) k x.2.1 (0 : Int) x.1
def laws_markInt64S.hd : Hints := ⟨[(2, ⟨[0, 1, 5], []⟩)], [(0, [1]), (1, [0, 1, 5])], [4], [0, 1, 5], []⟩
def laws_markInt64S.lps (k : Nat) : List (Nat × Lp laws_markInt64S.sg.Out) := [(2, ⟨[.i, .i, .l (.int .i64)], fun x => (fun x0 x1 x2 => ⟨[(0, .v false [.arr 0]), (1, .v false [.int .i64 x0]), (5, .v false [.int .i64 x1])], [(0, .arr (.int .i64) true false x2)], [.arr 0]⟩) x.1 x.2.1 x.2.2.1, fun C n x => laws_markInt64S.l2 k (fun y => C (.exit 0) ((fun y0 y1 => ⟨[(1, .v false [.int .i64 y0])], [(0, .arr (.int .i64) true false y1)], [.arr 0]⟩) y.1 y.2.1)) n x.1 x.2.1 x.2.2.1⟩)]
theorem laws_markInt64S.loops (k : Nat) : LoopsOk laws_markInt64S.E k laws_markInt64S.hd (laws_markInt64S.lps k) (loopsOf (Go.Proofs.Try.f57.body.getD .skip)) := ⟨⟨fun _ _ => rfl, fun _ _ _ => by kernel_rfl, fun _ => ⟨rfl, rfl⟩⟩, trivial⟩
theorem laws_markInt64S.den (k : Nat) (x : Sig.In laws_markInt64S.sg.ps) : denFn laws_markInt64S.E k Go.Proofs.Try.f57 laws_markInt64S.sg laws_markInt64S.hd (runL k laws_markInt64S.hd (laws_markInt64S.lps k)) x = laws_markInt64S.F k x := by kernel_rfl
theorem laws_markInt64S.ok (k : Nat) : Contract Try.prog 57 laws_markInt64S.sg (laws_markInt64S.F k) := ok_of (E := laws_markInt64S.E) (tysOk _ _) (eqsOk _) trivial Try.func57 rfl (by kernel_rfl) (laws_markInt64S.loops k) (laws_markInt64S.den k)
def laws_markAttrs.sg : Sig := ⟨[.m kAttrs, .b (.int .i64)], [((.int .i64), .rd)]⟩
def laws_markAttrs.E : Env := ⟨tys, bys, [(57, ⟨laws_markInt64S.sg, laws_markInt64S.F⟩)], eqs⟩
def laws_markAttrs.F (k : Nat) (x : ((Int × ((List Int) × (Int × (Int × (Int × Unit))))) × (Int × Unit))) : Option ((Int × Unit) × ((Int × ((List Int) × (Int × (Int × (Int × Unit))))) × Unit)) :=
  (laws_markInt64S.F k (x.1.2.1, x.2)).bind fun y0 =>
  some (y0.1, (x.1.1, y0.2.1, x.1.2.2), ())
def laws_markAttrs.hd : Hints := ⟨[], [], [4], [0, 1, 2], []⟩
def laws_markAttrs.lps (k : Nat) : List (Nat × Lp laws_markAttrs.sg.Out) := []
theorem laws_markAttrs.loops (k : Nat) : LoopsOk laws_markAttrs.E k laws_markAttrs.hd (laws_markAttrs.lps k) (loopsOf (Go.Proofs.Try.f34.body.getD .skip)) := trivial
theorem laws_markAttrs.den (k : Nat) (x : Sig.In laws_markAttrs.sg.ps) : denFn laws_markAttrs.E k Go.Proofs.Try.f34 laws_markAttrs.sg laws_markAttrs.hd (runL k laws_markAttrs.hd (laws_markAttrs.lps k)) x = laws_markAttrs.F k x := by kernel_rfl
theorem laws_markAttrs.ok (k : Nat) : Contract Try.prog 34 laws_markAttrs.sg (laws_markAttrs.F k) := ok_of (E := laws_markAttrs.E) (tysOk _ _) (eqsOk _) ⟨laws_markInt64S.ok k, trivial⟩ Try.func34 rfl (by kernel_rfl) (laws_markAttrs.loops k) (laws_markAttrs.den k)
def laws_markUpdate.sg : Sig := ⟨[.m kUpdate, .b (.int .i64)], [((.int .i64), .rd)]⟩
def laws_markUpdate.E : Env := ⟨tys, bys, [(33, ⟨laws_markPrefixS.sg, laws_markPrefixS.F⟩), (34, ⟨laws_markAttrs.sg, laws_markAttrs.F⟩)], eqs⟩
def laws_markUpdate.F (k : Nat) (x : (((List (Int × (Int × Unit))) × (Bool × ((Int × ((List Int) × (Int × (Int × (Int × Unit))))) × ((List (Int × (Int × Unit))) × Unit)))) × (Int × Unit))) : Option ((Int × Unit) × (((List (Int × (Int × Unit))) × (Bool × ((Int × ((List Int) × (Int × (Int × (Int × Unit))))) × ((List (Int × (Int × Unit))) × Unit)))) × Unit)) :=
  (laws_markPrefixS.F k (x.1.1, x.2)).bind fun y0 =>
  (laws_markAttrs.F k (x.1.2.2.1, y0.1)).bind fun y1 =>
  (laws_markPrefixS.F k (x.1.2.2.2.1, y1.1)).bind fun y2 =>
  some (y2.1, (y0.2.1, x.1.2.1, (x.1.2.2.1.1, y1.2.1.2.1, x.1.2.2.1.2.2), y2.2), ())
def laws_markUpdate.hd : Hints := ⟨[], [], [4], [0, 1, 2], []⟩
def laws_markUpdate.lps (k : Nat) : List (Nat × Lp laws_markUpdate.sg.Out) := []
theorem laws_markUpdate.loops (k : Nat) : LoopsOk laws_markUpdate.E k laws_markUpdate.hd (laws_markUpdate.lps k) (loopsOf (Go.Proofs.Try.f19.body.getD .skip)) := trivial
theorem laws_markUpdate.den (k : Nat) (x : Sig.In laws_markUpdate.sg.ps) : denFn laws_markUpdate.E k Go.Proofs.Try.f19 laws_markUpdate.sg laws_markUpdate.hd (runL k laws_markUpdate.hd (laws_markUpdate.lps k)) x = laws_markUpdate.F k x := by kernel_rfl
theorem laws_markUpdate.ok (k : Nat) : Contract Try.prog 19 laws_markUpdate.sg (laws_markUpdate.F k) := ok_of (E := laws_markUpdate.E) (tysOk _ _) (eqsOk _) ⟨laws_markPrefixS.ok k, laws_markAttrs.ok k, trivial⟩ Try.func19 rfl (by kernel_rfl) (laws_markUpdate.loops k) (laws_markUpdate.den k)
def laws_markMessage.sg : Sig := ⟨[.m kMessage, .b (.int .i64)], [((.int .i64), .rd)]⟩
def laws_markMessage.E : Env := ⟨tys, bys, [(19, ⟨laws_markUpdate.sg, laws_markUpdate.F⟩)], eqs⟩
def laws_markMessage.F (k : Nat) (x : ((Int × (Int × (Int × (Int × (Int × (Int × (((List (Int × (Int × Unit))) × (Bool × ((Int × ((List Int) × (Int × (Int × (Int × Unit))))) × ((List (Int × (Int × Unit))) × Unit)))) × Unit))))))) × (Int × Unit))) : Option ((Int × Unit) × ((Int × (Int × (Int × (Int × (Int × (Int × (((List (Int × (Int × Unit))) × (Bool × ((Int × ((List Int) × (Int × (Int × (Int × Unit))))) × ((List (Int × (Int × Unit))) × Unit)))) × Unit))))))) × Unit)) :=
  (laws_markUpdate.F k (x.1.2.2.2.2.2.2.1, x.2)).bind fun y0 =>
  some (y0.1, (x.1.1, x.1.2.1, x.1.2.2.1, x.1.2.2.2.1, x.1.2.2.2.2.1, x.1.2.2.2.2.2.1, (y0.2.1.1, x.1.2.2.2.2.2.2.1.2.1, (x.1.2.2.2.2.2.2.1.2.2.1.1, y0.2.1.2.2.1.2.1, x.1.2.2.2.2.2.2.1.2.2.1.2.2), y0.2.1.2.2.2), ()), ())
def laws_markMessage.hd : Hints := ⟨[], [], [4], [0, 1, 2], []⟩
def laws_markMessage.lps (k : Nat) : List (Nat × Lp laws_markMessage.sg.Out) := []
theorem laws_markMessage.loops (k : Nat) : LoopsOk laws_markMessage.E k laws_markMessage.hd (laws_markMessage.lps k) (loopsOf (Go.Proofs.Try.f10.body.getD .skip)) := trivial
theorem laws_markMessage.den (k : Nat) (x : Sig.In laws_markMessage.sg.ps) : denFn laws_markMessage.E k Go.Proofs.Try.f10 laws_markMessage.sg laws_markMessage.hd (runL k laws_markMessage.hd (laws_markMessage.lps k)) x = laws_markMessage.F k x := by kernel_rfl
theorem laws_markMessage.ok (k : Nat) : Contract Try.prog 10 laws_markMessage.sg (laws_markMessage.F k) := ok_of (E := laws_markMessage.E) (tysOk _ _) (eqsOk _) ⟨laws_markUpdate.ok k, trivial⟩ Try.func10 rfl (by kernel_rfl) (laws_markMessage.loops k) (laws_markMessage.den k)
def laws_markByteS.sg : Sig := ⟨[.m (.sl (.int .u8)), .b (.int .i64)], [((.int .i64), .rd)]⟩
def laws_markByteS.E : Env := ⟨tys, bys, [], eqs⟩
def laws_markByteS.l2 {ρ : Type} (k : Nat) (c0 : (Int × (List Int × Unit)) → Option ρ) : Nat → Int → Int → List Int → Option ρ
  | 0 => fun _ _ _ => none
  | n + 1 => fun x0 x1 x2 => 
    bif (decide ((x1 < (((List.length x2) : Nat) : Int)))) then
    (bif (Go.Dn.inB x1 (((List.length x2) : Nat) : Int)) then
      (Go.Dn.share (List.set x2 (Int.toNat x1) (IntKind.wrap .u8 x0)) fun s0 =>
        laws_markByteS.l2 k c0 n (IntKind.wrap .i64 (x0 + (1 : Int))) (IntKind.wrap .i64 (x1 + (1 : Int))) s0)
      else none)
    else c0 (x0, x2, ())
def laws_markByteS.F (k : Nat) (x : ((List Int) × (Int × Unit))) : Option ((Int × Unit) × ((List Int) × Unit)) :=
  laws_markByteS.l2 k (fun e1 =>
    some ((e1.1, ()), e1.2)) k x.2.1 (0 : Int) x.1
def laws_markByteS.hd : Hints := ⟨[(2, ⟨[0, 1, 5], []⟩)], [(0, [1]), (1, [0, 1, 5])], [4], [0, 1, 5], []⟩
def laws_markByteS.lps (k : Nat) : List (Nat × Lp laws_markByteS.sg.Out) := [(2, ⟨[.i, .i, .l (.int .u8)], fun x => (fun x0 x1 x2 => ⟨[(0, .v false [.arr 0]), (1, .v false [.int .i64 x0]), (5, .v false [.int .i64 x1])], [(0, .arr (.int .u8) true false x2)], [.arr 0]⟩) x.1 x.2.1 x.2.2.1, fun C n x => laws_markByteS.l2 k (fun y => C (.exit 0) ((fun y0 y1 => ⟨[(1, .v false [.int .i64 y0])], [(0, .arr (.int .u8) true false y1)], [.arr 0]⟩) y.1 y.2.1)) n x.1 x.2.1 x.2.2.1⟩)]
theorem laws_markByteS.loops (k : Nat) : LoopsOk laws_markByteS.E k laws_markByteS.hd (laws_markByteS.lps k) (loopsOf (Go.Proofs.Try.f20.body.getD .skip)) := ⟨⟨fun _ _ => rfl, fun _ _ _ => by kernel_rfl, fun _ => ⟨rfl, rfl⟩⟩, trivial⟩
theorem laws_markByteS.den (k : Nat) (x : Sig.In laws_markByteS.sg.ps) : denFn laws_markByteS.E k Go.Proofs.Try.f20 laws_markByteS.sg laws_markByteS.hd (runL k laws_markByteS.hd (laws_markByteS.lps k)) x = laws_markByteS.F k x := by kernel_rfl
theorem laws_markByteS.ok (k : Nat) : Contract Try.prog 20 laws_markByteS.sg (laws_markByteS.F k) := ok_of (E := laws_markByteS.E) (tysOk _ _) (eqsOk _) trivial Try.func20 rfl (by kernel_rfl) (laws_markByteS.loops k) (laws_markByteS.den k)
def laws_markBytesResult.sg : Sig := ⟨[.m kBytesResult, .b (.int .i64)], [((.int .i64), .rd)]⟩
def laws_markBytesResult.E : Env := ⟨tys, bys, [(20, ⟨laws_markByteS.sg, laws_markByteS.F⟩)], eqs⟩
def laws_markBytesResult.F (k : Nat) (x : ((Int × ((List Int) × Unit)) × (Int × Unit))) : Option ((Int × Unit) × ((Int × ((List Int) × Unit)) × Unit)) :=
  (laws_markByteS.F k (x.1.2.1, x.2)).bind fun y0 =>
  some (y0.1, (x.1.1, y0.2), ())
def laws_markBytesResult.hd : Hints := ⟨[], [], [4], [0, 1, 2], []⟩
def laws_markBytesResult.lps (k : Nat) : List (Nat × Lp laws_markBytesResult.sg.Out) := []
theorem laws_markBytesResult.loops (k : Nat) : LoopsOk laws_markBytesResult.E k laws_markBytesResult.hd (laws_markBytesResult.lps k) (loopsOf (Go.Proofs.Try.f11.body.getD .skip)) := trivial
theorem laws_markBytesResult.den (k : Nat) (x : Sig.In laws_markBytesResult.sg.ps) : denFn laws_markBytesResult.E k Go.Proofs.Try.f11 laws_markBytesResult.sg laws_markBytesResult.hd (runL k laws_markBytesResult.hd (laws_markBytesResult.lps k)) x = laws_markBytesResult.F k x := by kernel_rfl
theorem laws_markBytesResult.ok (k : Nat) : Contract Try.prog 11 laws_markBytesResult.sg (laws_markBytesResult.F k) := ok_of (E := laws_markBytesResult.E) (tysOk _ _) (eqsOk _) ⟨laws_markByteS.ok k, trivial⟩ Try.func11 rfl (by kernel_rfl) (laws_markBytesResult.loops k) (laws_markBytesResult.den k)
def laws_heldByteS.sg : Sig := ⟨[.b (.sl (.int .u8)), .b (.int .i64)], [((.int .i64), .rd)]⟩
def laws_heldByteS.E : Env := ⟨tys, bys, [], eqs⟩
def laws_heldByteS.l2 {ρ : Type} (k : Nat) (c0 : (Int × Unit) → Option ρ) (c1 : (Int × Unit) → Option ρ) : Nat → List Int → Int → Int → Option ρ
  | 0 => fun _ _ _ => none
  | n + 1 => fun x0 x1 x2 => 
    bif (decide ((x2 < (((List.length x0) : Nat) : Int)))) then
    (bif (Go.Dn.inB x2 (((List.length x0) : Nat) : Int)) then
      (Go.Dn.share (List.getD x0 (Int.toNat x2) (0 : Int)) fun s0 =>
        bif (s0 != (IntKind.wrap .u8 x1)) then
        (c0 ((-(1 : Int)), ()))
        else laws_heldByteS.l2 k c0 c1 n x0 (IntKind.wrap .i64 (x1 + (1 : Int))) (IntKind.wrap .i64 (x2 + (1 : Int))))
      else none)
    else c1 (x1, ())
def laws_heldByteS.F (k : Nat) (x : ((List Int) × (Int × Unit))) : Option ((Int × Unit) × Unit) :=
  laws_heldByteS.l2 k (fun e1 =>
    some (e1, ())) (fun e2 =>
    some (e2, ())) k x.1 x.2.1 (0 : Int)
def laws_heldByteS.hd : Hints := ⟨[(2, ⟨[0, 1, 5], []⟩)], [(0, [1]), (1, [0, 1, 5])], [4], [0, 1, 5], []⟩
def laws_heldByteS.lps (k : Nat) : List (Nat × Lp laws_heldByteS.sg.Out) := [(2, ⟨[.l (.int .u8), .i, .i], fun x => (fun x0 x1 x2 => ⟨[(0, .v false [.fz (.int .u8) x0]), (1, .v false [.int .i64 x1]), (5, .v false [.int .i64 x2])], [], []⟩) x.1 x.2.1 x.2.2.1, fun C n x => laws_heldByteS.l2 k (fun y => C .ret ((fun y0 => ⟨[(4, .v false [.int .i64 y0])], [], []⟩) y.1)) (fun y => C (.exit 0) ((fun y0 => ⟨[(1, .v false [.int .i64 y0])], [], []⟩) y.1)) n x.1 x.2.1 x.2.2.1⟩)]
theorem laws_heldByteS.loops (k : Nat) : LoopsOk laws_heldByteS.E k laws_heldByteS.hd (laws_heldByteS.lps k) (loopsOf (Go.Proofs.Try.f21.body.getD .skip)) := ⟨⟨fun _ _ => rfl, fun _ _ _ => by kernel_rfl, fun _ => ⟨rfl, rfl⟩⟩, trivial⟩
theorem laws_heldByteS.den (k : Nat) (x : Sig.In laws_heldByteS.sg.ps) : denFn laws_heldByteS.E k Go.Proofs.Try.f21 laws_heldByteS.sg laws_heldByteS.hd (runL k laws_heldByteS.hd (laws_heldByteS.lps k)) x = laws_heldByteS.F k x := by kernel_rfl
theorem laws_heldByteS.ok (k : Nat) : Contract Try.prog 21 laws_heldByteS.sg (laws_heldByteS.F k) := ok_of (E := laws_heldByteS.E) (tysOk _ _) (eqsOk _) trivial Try.func21 rfl (by kernel_rfl) (laws_heldByteS.loops k) (laws_heldByteS.den k)
def laws_heldBytesResult.sg : Sig := ⟨[.b kBytesResult, .b (.int .i64)], [((.int .i64), .rd)]⟩
def laws_heldBytesResult.E : Env := ⟨tys, bys, [(21, ⟨laws_heldByteS.sg, laws_heldByteS.F⟩)], eqs⟩
def laws_heldBytesResult.F (k : Nat) (x : ((Int × ((List Int) × Unit)) × (Int × Unit))) : Option ((Int × Unit) × Unit) :=
  (laws_heldByteS.F k (x.1.2.1, x.2)).bind fun y0 =>
  bif (decide ((y0.1.1 < (0 : Int)))) then
  (some (((-(1 : Int)), ()), ()))
  else some y0
def laws_heldBytesResult.hd : Hints := ⟨[], [], [4], [0, 1, 2], []⟩
def laws_heldBytesResult.lps (k : Nat) : List (Nat × Lp laws_heldBytesResult.sg.Out) := []
theorem laws_heldBytesResult.loops (k : Nat) : LoopsOk laws_heldBytesResult.E k laws_heldBytesResult.hd (laws_heldBytesResult.lps k) (loopsOf (Go.Proofs.Try.f12.body.getD .skip)) := trivial
theorem laws_heldBytesResult.den (k : Nat) (x : Sig.In laws_heldBytesResult.sg.ps) : denFn laws_heldBytesResult.E k Go.Proofs.Try.f12 laws_heldBytesResult.sg laws_heldBytesResult.hd (runL k laws_heldBytesResult.hd (laws_heldBytesResult.lps k)) x = laws_heldBytesResult.F k x := by kernel_rfl
theorem laws_heldBytesResult.ok (k : Nat) : Contract Try.prog 12 laws_heldBytesResult.sg (laws_heldBytesResult.F k) := ok_of (E := laws_heldBytesResult.E) (tysOk _ _) (eqsOk _) ⟨laws_heldByteS.ok k, trivial⟩ Try.func12 rfl (by kernel_rfl) (laws_heldBytesResult.loops k) (laws_heldBytesResult.den k)
def laws_FnExactSayText.sg : Sig := ⟨[.b kMessage], [(.bool, .rd)]⟩
def laws_FnExactSayText.E : Env := ⟨tys, bys, [(4, ⟨laws_szMessage.sg, laws_szMessage.F⟩), (5, ⟨spec_SayText.sg, spec_SayText.F⟩), (6, ⟨laws_toMessage.sg, laws_toMessage.F⟩), (7, ⟨impl_SayText.sg, impl_SayText.F⟩), (8, ⟨laws_eqBytesResult.sg, laws_eqBytesResult.F⟩), (9, ⟨laws_eqMessage.sg, laws_eqMessage.F⟩), (10, ⟨laws_markMessage.sg, laws_markMessage.F⟩), (11, ⟨laws_markBytesResult.sg, laws_markBytesResult.F⟩), (12, ⟨laws_heldBytesResult.sg, laws_heldBytesResult.F⟩)], eqs⟩
def laws_FnExactSayText.F (k : Nat) (x : ((Int × (Int × (Int × (Int × (Int × (Int × (((List (Int × (Int × Unit))) × (Bool × ((Int × ((List Int) × (Int × (Int × (Int × Unit))))) × ((List (Int × (Int × Unit))) × Unit)))) × Unit))))))) × Unit)) : Option ((Bool × Unit) × Unit) :=
  (laws_szMessage.F k (x.1, (1048576 : Int), ())).bind fun y0 =>
  bif (decide ((y0.1.1 < (0 : Int)))) then
  (some ((true, ()), ()))
  else (laws_toMessage.F k x).bind fun y1 =>
    (spec_SayText.F k y1.1).bind fun y2 =>
    (laws_toMessage.F k x).bind fun y3 =>
    (impl_SayText.F k y3.1).bind fun y4 =>
    (laws_eqBytesResult.F k (y4.1.1, y2.1)).bind fun y5 =>
    bif (!y5.1.1) then
    (some ((false, ()), ()))
    else (laws_toMessage.F k x).bind fun y6 =>
      (laws_eqMessage.F k (y3.1.1, y6.1)).bind fun y7 =>
      bif (!y7.1.1) then
      (some ((false, ()), ()))
      else (laws_markMessage.F k (y3.1.1, (1 : Int), ())).bind fun y8 =>
        bif (decide ((y8.1.1 < (0 : Int)))) then
        (some ((false, ()), ()))
        else (laws_eqBytesResult.F k (y4.1.1, y2.1)).bind fun y9 =>
          bif (!y9.1.1) then
          (some ((false, ()), ()))
          else (laws_markBytesResult.F k (y4.1.1, (1 : Int), ())).bind fun y10 =>
            (laws_heldBytesResult.F k ((y4.1.1.1, y10.2.1.2), (1 : Int), ())).bind fun y11 =>
            bif (decide ((y11.1.1 < (0 : Int)))) then
            (some ((false, ()), ()))
            else bif (y11.1.1 != y10.1.1) then
              (some ((false, ()), ()))
              else (laws_toMessage.F k x).bind fun y12 =>
                (impl_SayText.F k y12.1).bind fun y13 =>
                (laws_eqBytesResult.F k (y13.1.1, y2.1)).bind fun y14 =>
                bif (!y14.1.1) then
                (some ((false, ()), ()))
                else (laws_heldBytesResult.F k ((y4.1.1.1, y10.2.1.2), (1 : Int), ())).bind fun y15 =>
                  bif (decide ((y15.1.1 < (0 : Int)))) then
                  (some ((false, ()), ()))
                  else bif (y15.1.1 != y10.1.1) then
                    (some ((false, ()), ()))
                    else some ((true, ()), ())
def laws_FnExactSayText.hd : Hints := ⟨[], [], [2], [0, 1, 3, 4, 5, 6, 7, 8, 9, 10], [(10, [0, 0, 2, 7, 15])]⟩
def laws_FnExactSayText.lps (k : Nat) : List (Nat × Lp laws_FnExactSayText.sg.Out) := []
theorem laws_FnExactSayText.loops (k : Nat) : LoopsOk laws_FnExactSayText.E k laws_FnExactSayText.hd (laws_FnExactSayText.lps k) (loopsOf (Go.Proofs.Try.f3.body.getD .skip)) := trivial
theorem laws_FnExactSayText.den (k : Nat) (x : Sig.In laws_FnExactSayText.sg.ps) : denFn laws_FnExactSayText.E k Go.Proofs.Try.f3 laws_FnExactSayText.sg laws_FnExactSayText.hd (runL k laws_FnExactSayText.hd (laws_FnExactSayText.lps k)) x = laws_FnExactSayText.F k x := by kernel_rfl
theorem laws_FnExactSayText.ok (k : Nat) : Contract Try.prog 3 laws_FnExactSayText.sg (laws_FnExactSayText.F k) := ok_of (E := laws_FnExactSayText.E) (tysOk _ _) (eqsOk _) ⟨laws_szMessage.ok k, spec_SayText.ok k, laws_toMessage.ok k, impl_SayText.ok k, laws_eqBytesResult.ok k, laws_eqMessage.ok k, laws_markMessage.ok k, laws_markBytesResult.ok k, laws_heldBytesResult.ok k, trivial⟩ Try.func3 rfl (by kernel_rfl) (laws_FnExactSayText.loops k) (laws_FnExactSayText.den k)

end Go.Proofs.Ytopldlbnnnmpbaa
