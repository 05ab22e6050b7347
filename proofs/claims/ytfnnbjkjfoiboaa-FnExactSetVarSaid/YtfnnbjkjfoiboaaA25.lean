/- The abstract machine, twenty-five: contracts of the machine as contracts over data with places. -/
import Derived.Test.YtfnnbjkjfoiboaaA24
namespace Go.Proofs.Ytfnnbjkjfoiboaa
open Go.RowKit

section
variable {P : Program} {w : World} {φ : Nat → Lc} {K : Nat → Prop}
/-- Data that are read in w, as cells. -/
theorem ac_CRL {lo hi : Nat} (hh : hi ≤ w.heap.size) : ∀ (e : E) (t : TypeId), e.Ty P t → e.Re w lo hi → CRL w (fun b => b < w.heap.size) φ K (acE e) e.enc [] := by
  intro e
  induction e using E.ind with
  | h1 k n => intro t _ _; exact CRL.cons (f := []) (f' := []) (by simp only [CR]; exact ⟨trivial, rfl, trivial⟩) CRL.nil
  | h2 b => intro t _ _; exact CRL.cons (f := []) (f' := []) (by simp only [CR]; exact ⟨trivial, rfl, trivial⟩) CRL.nil
  | h3 s => intro t _ _; exact CRL.cons (f := []) (f' := []) (by simp only [CR]; exact ⟨trivial, rfl, trivial⟩) CRL.nil
  | h4 fs ih =>
    intro t ht hr
    simp only [E.Ty] at ht
    obtain ⟨F, hU, ht⟩ := ht
    simp only [E.Re, E.ReL_iff] at hr
    simp only [acE, E.enc]
    generalize F.toList.map (·.type) = ts at ht
    clear hU F
    induction fs generalizing ts with
    | nil => exact CRL.nil
    | cons x r ihr =>
      simp only [E.TyF] at ht
      obtain ⟨t', tr, _, h1, h2⟩ := ht
      simp only [acL, E.encL]
      have := (ih x List.mem_cons_self t' h1 (hr x List.mem_cons_self)).app (ihr (fun e he => ih e (List.mem_cons_of_mem _ he)) (fun e he => hr e (List.mem_cons_of_mem _ he)) tr h2)
      simpa using this
  | h5 k T A c l ih =>
    intro t ht hr
    simp only [E.Ty] at ht
    obtain ⟨_, _, hk, hl⟩ := ht
    rw [E.TyL_iff] at hl
    simp only [E.Re, E.ReL_iff] at hr
    obtain ⟨hsl, hre⟩ := hr
    simp only [acE, E.enc]
    refine CRL.cons (f := []) (f' := []) ?_ CRL.nil
    simp only [CR]
    obtain ⟨A', c', e, h1, h2, h3⟩ := hsl
    injection e with e1 _ e3
    subst e1 e3
    refine ⟨trivial, A, c, rfl, ⟨h1, h2.1, h2.2⟩, by rw [acL_len, E.encL_len hk], fun hn => ?_⟩
    obtain ⟨b, o, hA, _, hb2, hcell⟩ := h3 hn
    refine ⟨b, o, E.encL l, hA, by omega, by omega, fun m x hm => ?_, ?_⟩
    · have hlen := E.encL_len hk
      have hml : m < l.length * k := by rw [← hlen]; exact (List.getElem?_eq_some_iff.1 hm).1
      have hk0 : 0 < k := by
        rcases Nat.eq_zero_or_pos k with h0 | h0
        · subst h0; simp at hml
        · exact h0
      have hq : m / k < l.length := (Nat.div_lt_iff_lt_mul hk0).2 hml
      have hr : m % k < k := Nat.mod_lt _ hk0
      have hm' : m = m / k * k + m % k := by rw [Nat.mul_comm]; exact (Nat.div_add_mod m k).symm
      have h5 := hcell (m / k) hq (m % k) x (by rw [← E.encL_at hk (m / k) hq (m % k) hr, ← hm']; exact hm)
      rw [Nat.add_assoc, ← hm'] at h5
      exact h5
    · clear h1 hn hcell h3 hk
      induction l with
      | nil => exact CRL.nil
      | cons x r ihr =>
        simp only [acL, E.encL]
        have := (ih x List.mem_cons_self T (hl x List.mem_cons_self) (hre x List.mem_cons_self)).app (ihr (fun e he => ih e (List.mem_cons_of_mem _ he)) (fun e he => hl e (List.mem_cons_of_mem _ he)) (fun e he => hre e (List.mem_cons_of_mem _ he)) rfl)
        simpa using this
/-- Cells that are held, as data. -/
theorem ow_E {St : Nat → Prop} {lo : Nat} : ∀ (D : E) (t : TypeId) (us : List Value) (fp : List Nat), D.Ty P t → CRL w St φ0 K0 (owE D) us fp → (∀ b ∈ fp, lo ≤ b) →
    ∃ x : E, x.enc = us ∧ x.fp = fp ∧ x.d = D.d ∧ x.Ho w lo w.heap.size ∧ x.Ty P t ∧ (∀ fs, D = .agg fs → ∃ gs, x = .agg gs) := by
  intro D
  induction D using E.ind with
  | h1 k n =>
    intro t us fp ht h _
    simp only [owE, CRL, CR] at h
    obtain ⟨u, us', f, f', rfl, rfl, ⟨rfl, _, rfl⟩, rfl, rfl⟩ := h
    exact ⟨.int k n, rfl, rfl, rfl, by simp [E.Ho], ht, fun _ e => by cases e⟩
  | h2 b =>
    intro t us fp ht h _
    simp only [owE, CRL, CR] at h
    obtain ⟨u, us', f, f', rfl, rfl, ⟨rfl, _, rfl⟩, rfl, rfl⟩ := h
    exact ⟨.bool b, rfl, rfl, rfl, by simp [E.Ho], ht, fun _ e => by cases e⟩
  | h3 s =>
    intro t us fp ht h _
    simp only [owE, CRL, CR] at h
    obtain ⟨u, us', f, f', rfl, rfl, ⟨rfl, _, rfl⟩, rfl, rfl⟩ := h
    exact ⟨.str s, rfl, rfl, rfl, by simp [E.Ho], ht, fun _ e => by cases e⟩
  | h4 fs ih =>
    intro t us fp ht h hlo
    simp only [E.Ty] at ht
    obtain ⟨F, hU, ht⟩ := ht
    simp only [owE] at h
    have key : ∀ (fs : List E) (ts : List TypeId) (us : List Value) (fp : List Nat), (∀ e ∈ fs, ∀ (t : TypeId) (us : List Value) (fp : List Nat), e.Ty P t → CRL w St φ0 K0 (owE e) us fp → (∀ b ∈ fp, lo ≤ b) → ∃ x : E, x.enc = us ∧ x.fp = fp ∧ x.d = e.d ∧ x.Ho w lo w.heap.size ∧ x.Ty P t ∧ (∀ gs, e = .agg gs → ∃ gs, x = .agg gs)) → E.TyF P fs ts → CRL w St φ0 K0 (owL fs) us fp → (∀ b ∈ fp, lo ≤ b) →
        ∃ xs : List E, E.encL xs = us ∧ E.fpL xs = fp ∧ E.dL xs = E.dL fs ∧ E.HoL w lo w.heap.size xs ∧ E.TyF P xs ts := by
      intro fs
      induction fs with
      | nil =>
        intro ts us fp _ ht h _
        simp only [owL, CRL] at h
        obtain ⟨rfl, rfl⟩ := h
        exact ⟨[], rfl, rfl, rfl, by simp [E.HoL], ht⟩
      | cons e r ihr =>
        intro ts us fp ih ht h hlo
        simp only [E.TyF] at ht
        obtain ⟨t', tr, rfl, h1, h2⟩ := ht
        simp only [owL] at h
        obtain ⟨u1, u2, f1, f2, rfl, rfl, g1, g2⟩ := h.split
        obtain ⟨x, a1, a2, a3, a4, a5, _⟩ := ih e List.mem_cons_self t' u1 f1 h1 g1 (fun b hb => hlo b (List.mem_append_left _ hb))
        obtain ⟨xs, b1, b2, b3, b4, b5⟩ := ihr tr u2 f2 (fun e he => ih e (List.mem_cons_of_mem _ he)) h2 g2 (fun b hb => hlo b (List.mem_append_right _ hb))
        exact ⟨x :: xs, by simp only [E.encL, a1, b1], by simp only [E.fpL, a2, b2], by simp only [E.dL, a3, b3], by simp only [E.HoL]; exact ⟨a4, b4⟩, by simp only [E.TyF]; exact ⟨t', tr, rfl, a5, b5⟩⟩
    obtain ⟨xs, b1, b2, b3, b4, b5⟩ := key fs _ us fp ih ht h hlo
    exact ⟨.agg xs, b1, b2, by simp only [E.d, b3], E.Ho.mk_agg b4, E.Ty.mk_agg hU b5, fun _ _ => ⟨xs, rfl⟩⟩
  | h5 k T A c l ih =>
    intro t us fp ht h hlo
    simp only [E.Ty] at ht
    obtain ⟨hU, hk64, hk, hl⟩ := ht
    rw [E.TyL_iff] at hl
    simp only [owE, CRL, CR] at h
    obtain ⟨u, us', f, f', rfl, rfl, ⟨vs, fs, h1, h2, rfl⟩, rfl, rfl⟩ := h
    rw [List.append_nil] at hlo ⊢
    have key : ∀ (l : List E) (us : List Value) (fp : List Nat), (∀ e ∈ l, ∀ (t : TypeId) (us : List Value) (fp : List Nat), e.Ty P t → CRL w St φ0 K0 (owE e) us fp → (∀ b ∈ fp, lo ≤ b) → ∃ x : E, x.enc = us ∧ x.fp = fp ∧ x.d = e.d ∧ x.Ho w lo w.heap.size ∧ x.Ty P t ∧ (∀ gs, e = .agg gs → ∃ gs, x = .agg gs)) → (∀ e ∈ l, e.Ty P T) → (∀ e ∈ l, e.enc.length = k) → CRL w St φ0 K0 (owL l) us fp → (∀ b ∈ fp, lo ≤ b) →
        ∃ xs : List E, E.encL xs = us ∧ E.fpL xs = fp ∧ E.dL xs = E.dL l ∧ (∀ x ∈ xs, x.Ho w lo w.heap.size) ∧ (∀ x ∈ xs, x.Ty P T) ∧ (∀ x ∈ xs, x.enc.length = k) ∧ xs.length = l.length := by
      intro l
      induction l with
      | nil =>
        intro us fp _ _ _ h _
        simp only [owL, CRL] at h
        obtain ⟨rfl, rfl⟩ := h
        exact ⟨[], rfl, rfl, rfl, fun _ h => absurd h List.not_mem_nil, fun _ h => absurd h List.not_mem_nil, fun _ h => absurd h List.not_mem_nil, rfl⟩
      | cons e r ihr =>
        intro us fp ih ht hk h hlo
        simp only [owL] at h
        obtain ⟨u1, u2, f1, f2, rfl, rfl, g1, g2⟩ := h.split
        obtain ⟨x, a1, a2, a3, a4, a5, _⟩ := ih e List.mem_cons_self T u1 f1 (ht e List.mem_cons_self) g1 (fun b hb => hlo b (List.mem_append_left _ hb))
        obtain ⟨xs, b1, b2, b3, b4, b5, b6, b7⟩ := ihr u2 f2 (fun e he => ih e (List.mem_cons_of_mem _ he)) (fun e he => ht e (List.mem_cons_of_mem _ he)) (fun e he => hk e (List.mem_cons_of_mem _ he)) g2 (fun b hb => hlo b (List.mem_append_right _ hb))
        have hx : x.enc.length = k := by
          rw [a1, g1.len, owE_len]; exact hk e List.mem_cons_self
        refine ⟨x :: xs, by simp only [E.encL, a1, b1], by simp only [E.fpL, a2, b2], by simp only [E.dL, a3, b3], fun y hy => ?_, fun y hy => ?_, fun y hy => ?_, by simp [b7]⟩
        · rcases List.mem_cons.1 hy with rfl | hy
          · exact a4
          · exact b4 y hy
        · rcases List.mem_cons.1 hy with rfl | hy
          · exact a5
          · exact b5 y hy
        · rcases List.mem_cons.1 hy with rfl | hy
          · exact hx
          · exact b6 y hy
    obtain ⟨xs, b1, b2, b3, b4, b5, b6, b7⟩ := key l vs fs ih hl hk h1 (fun b hb => hlo b (List.mem_append_right _ hb))
    obtain ⟨A', c', hv⟩ : ∃ A' c', u = .slice A' l.length c' := by
      obtain ⟨_, ⟨rfl, h0⟩ | ⟨g, cap, cur, rfl, _⟩⟩ := h2
      · exact ⟨none, 0, by rw [h0]⟩
      · exact ⟨_, cap, rfl⟩
    subst hv
    refine ⟨.lst k T A' c' xs, by simp only [E.enc, b7], ?_, by simp only [E.d, b3], E.Ho.mk ?_ b6 b4, E.Ty.mk_lst hU hk64.1.symm b5 b6 hk64.2, fun _ e => by cases e⟩
    · simp only [E.fp, b2]
      congr 1
      obtain ⟨_, ⟨hv, _⟩ | ⟨g, cap, cur, hv, _⟩⟩ := h2
      · injection hv with hv; subst hv; rfl
      · injection hv with hv; subst hv; rfl
    · rw [b7, b1]
      obtain ⟨hl1, hor⟩ := h2
      refine ⟨⟨hl1, ?_⟩, fun b hb => ?_⟩
      · rcases hor with h0 | ⟨g, cap, cur, hv, hz, hh, rest⟩
        · exact .inl h0
        · refine .inr ⟨g, cap, cur, hv, hlo g (List.mem_append_left _ ?_), hh, rest⟩
          rw [hv]; simp [obl, Value.ownBlock]
      · rcases hor with ⟨hv, _⟩ | ⟨g, cap, cur, hv, hz, hh, rest⟩
        · rw [hv] at hb; simp [Value.ownBlock] at hb
        · rw [hv] at hb
          simp only [Value.ownBlock] at hb
          have : g = b := by simpa using hb
          subst this
          exact (Array.getElem?_eq_some_iff.1 hh).1
/-- The same data of the same type, as the same cells. -/
theorem acE_of_d : ∀ (e e' : E) (t : TypeId), e.Ty P t → e'.Ty P t → e.d = e'.d → acE e = acE e' := by
  intro e
  induction e using E.ind with
  | h1 k n => intro e' t _ _ h; cases e' <;> simp [E.d] at h; simp [acE, h]
  | h2 b => intro e' t _ _ h; cases e' <;> simp [E.d] at h; simp [acE, h]
  | h3 s => intro e' t _ _ h; cases e' <;> simp [E.d] at h; simp [acE, h]
  | h4 fs ih =>
    intro e' t ht ht' h
    cases e' with
    | agg gs =>
      simp only [E.d, E.agg.injEq] at h
      simp only [E.Ty] at ht ht'
      obtain ⟨F, hU, ht⟩ := ht
      obtain ⟨F', hU', ht'⟩ := ht'
      rw [hU] at hU'; injection hU' with hU'; injection hU' with hU'; subst hU'
      simp only [acE]
      generalize F.toList.map (·.type) = ts at ht ht'
      clear hU F
      induction fs generalizing gs ts with
      | nil =>
        cases gs with
        | nil => rfl
        | cons _ _ => simp [E.dL] at h
      | cons x r ihr =>
        cases gs with
        | nil => simp [E.dL] at h
        | cons y r' =>
          simp only [E.dL, List.cons.injEq] at h
          simp only [E.TyF] at ht ht'
          obtain ⟨t1, tr, rfl, h1, h2⟩ := ht
          obtain ⟨t1', tr', e1, h1', h2'⟩ := ht'
          injection e1 with e1 e2
          subst e1 e2
          simp only [acL]
          rw [ih x List.mem_cons_self y t1 h1 h1' h.1, ihr (fun e he => ih e (List.mem_cons_of_mem _ he)) r' h.2 tr h2 h2']
    | _ => simp [E.d] at h
  | h5 k T A c l ih =>
    intro e' t ht ht' h
    cases e' with
    | lst k' T' A' c' m =>
      simp only [E.d, E.lst.injEq, true_and] at h
      simp only [E.Ty] at ht ht'
      obtain ⟨hU, hk64, hk, hl⟩ := ht
      obtain ⟨hU', hk64', hk', hl'⟩ := ht'
      rw [hU] at hU'; injection hU' with hU'; injection hU' with hU'; subst hU'
      rw [E.TyL_iff] at hl hl'
      have e1 : l.length = m.length := by rw [← E.dL_len l, ← E.dL_len m, h]
      have e2 : acL l = acL m := by
        clear hk hk' e1
        induction l generalizing m with
        | nil =>
          cases m with
          | nil => rfl
          | cons _ _ => simp [E.dL] at h
        | cons x r ihr =>
          cases m with
          | nil => simp [E.dL] at h
          | cons y r' =>
            simp only [E.dL, List.cons.injEq] at h
            simp only [acL]
            rw [ih x List.mem_cons_self y T (hl x List.mem_cons_self) (hl' y List.mem_cons_self) h.1, ihr (fun e he => ih e (List.mem_cons_of_mem _ he)) r' h.2 (fun e he => hl e (List.mem_cons_of_mem _ he)) (fun e he => hl' e (List.mem_cons_of_mem _ he))]
      simp only [acE, e1, e2, hk64.1, hk64'.1]
    | _ => simp [E.d] at h
end
/-- A function over data, by what the data say alone. -/
noncomputable def liftD {β : Type} (P : Program) (t : TypeId) (f : E → β) (z : β) (D : E) : β :=
  open Classical in if h : ∃ e : E, e.Ty P t ∧ e.d = D then f h.choose else z
theorem liftD_to {β : Type} {P : Program} {t : TypeId} {f : E → β} {z : β} {e : E} (he : e.Ty P t) : ∃ e' : E, e'.Ty P t ∧ e'.d = e.d ∧ acE e' = acE e ∧ liftD P t f z e.d = f e' := by
  have h : ∃ e' : E, e'.Ty P t ∧ e'.d = e.d := ⟨e, he, rfl⟩
  refine ⟨h.choose, h.choose_spec.1, h.choose_spec.2, acE_of_d _ _ t h.choose_spec.1 he h.choose_spec.2, ?_⟩
  unfold liftD
  rw [dif_pos h]
section
variable {P : Program} {w : World}
/-- A call of a contract that lends nothing. -/
theorem ctr_calls {f : FuncId} {ins : List AV} {res : AV} (h : Ctr P f ins [] res []) {us : List Value} (hin : VRL w (fun b => b < w.heap.size) φ0 K0 ins us) :
    Calls P f us.toArray w fun r w' => ∃ u St G, r = .returned u ∧ VRF w' St φ0 K0 res u G ∧ G.Nodup ∧ (∀ b ∈ G, w.heap.size ≤ b) ∧ Below w.heap.size w w' := by
  have hent : Ent w (fun b => b < w.heap.size) φ0 (fun _ => []) ins us [] := by
    refine ⟨?_, fun i cs hi => by simp at hi, fun i hi => by simp at hi, fun i j hi => by simp at hi, fun i j b lo hi => by simp at hi, fun i j b lo lo' ci cj hi => by simp at hi, fun i b hi => by simp at hi, fun i b lo hi => by simp at hi⟩
    have : K0 = fun i => i < ([] : List (List AC)).length := by funext i; simp [K0]
    rw [← this]; exact hin
  refine (h.2 w _ _ _ _ hent).mono ?_
  rintro e w' ⟨res', rows, u, St', F', G, ⟨rfl, rfl⟩, rfl, hx⟩
  have nl : ∀ b, ¬ lentM (fun _ => []) ([] : List (List AC)).length b := fun b ⟨i, hi, _⟩ => by simp at hi
  have nr : ∀ b o, ¬ lentR φ0 [] b o := fun b o ⟨i, lo, cs, hi, _⟩ => by simp at hi
  refine ⟨u, St', G, rfl, hx.res, hx.nodG, fun b hb => (hx.own b (.inl hb)).resolve_left (nl b), hx.frm.os, hx.frm.tape, hx.frm.output, hx.frm.size, fun k hk => (hx.frm.blk k hk (nl k)).same (nr k)⟩
end
def avI (e : E) : AV := match e with
  | .agg fs => .ag (acL fs)
  | .int k n => .c (.v (.int k n))
  | .bool b => .c (.v (.bool b))
  | .str s => .c (.v (.string s))
  | .lst k _ _ _ l => .c (.ro l.length k (acL l))
def avO (e : E) : AV := match e with
  | .agg fs => .ag (owL fs)
  | .int k n => .c (.v (.int k n))
  | .bool b => .c (.v (.bool b))
  | .str s => .c (.v (.string s))
  | .lst k T _ _ l => .c (.ow T l.length k (owL l))
section
variable {P : Program} {w : World} {φ : Nat → Lc} {K : Nat → Prop}
theorem avI_VR {e : E} {t : TypeId} (ht : e.Ty P t) (hi : e.In w) : VR w (fun b => b < w.heap.size) φ K (avI e) e.val := by
  have h := ac_CRL (φ := φ) (K := K) (Nat.le_refl _) e t ht hi
  cases e with
  | agg fs => simp only [avI, VR, E.val]; exact ⟨_, rfl, h⟩
  | int | bool | str =>
    simp only [acE, E.enc, CRL] at h
    obtain ⟨u, us', f, f', e1, e2, h1, h2, h3⟩ := h
    injection e1 with e1; subst e1
    have e' := List.append_eq_nil_iff.1 e2.symm
    rw [e'.1] at h1
    simp only [avI, VR, E.val]; exact h1
  | lst =>
    simp only [acE, E.enc, CRL] at h
    obtain ⟨u, us', f, f', e1, e2, h1, h2, h3⟩ := h
    injection e1 with e1; subst e1
    have e' := List.append_eq_nil_iff.1 e2.symm
    rw [e'.1] at h1
    simp only [avI, VR, E.val]; exact h1
theorem avO_E {St : Nat → Prop} {lo : Nat} {D : E} {t : TypeId} {u : Value} {G : List Nat} (ht : D.Ty P t) (h : VRF w St φ0 K0 (avO D) u G) (hlo : ∀ b ∈ G, lo ≤ b) : ∃ x : E, u = x.val ∧ x.fp = G ∧ x.d = D.d ∧ x.Ho w lo w.heap.size ∧ x.Ty P t := by
  cases D with
  | agg fs =>
    simp only [avO, VRF] at h
    obtain ⟨us, rfl, h⟩ := h
    obtain ⟨x, a1, a2, a3, a4, a5, a6⟩ := ow_E (.agg fs) t us G ht h hlo
    obtain ⟨gs, rfl⟩ := a6 fs rfl
    exact ⟨.agg gs, by simp only [E.val]; rw [← a1]; rfl, a2, a3, a4, a5⟩
  | int k n =>
    simp only [avO, VRF, CR] at h
    obtain ⟨rfl, _, rfl⟩ := h
    exact ⟨.int k n, rfl, rfl, rfl, by simp [E.Ho], ht⟩
  | bool b =>
    simp only [avO, VRF, CR] at h
    obtain ⟨rfl, _, rfl⟩ := h
    exact ⟨.bool b, rfl, rfl, rfl, by simp [E.Ho], ht⟩
  | str s =>
    simp only [avO, VRF, CR] at h
    obtain ⟨rfl, _, rfl⟩ := h
    exact ⟨.str s, rfl, rfl, rfl, by simp [E.Ho], ht⟩
  | lst k T A c l =>
    simp only [avO, VRF] at h
    obtain ⟨x, a1, a2, a3, a4, a5, _⟩ := ow_E (.lst k T A c l) t [u] G ht (by have := CRL.cons h (CRL.nil (w := w) (St := St) (φ := φ0) (K := K0)); rw [List.append_nil] at this; exact this) hlo
    cases x with
    | lst k' T' A' c' l' => simp only [E.enc, List.cons.injEq, and_true] at a1; exact ⟨_, by simp only [E.val]; exact a1.symm, a2, a3, a4, a5⟩
    | _ => simp [E.d] at a3
end
end Go.Proofs.Ytfnnbjkjfoiboaa
