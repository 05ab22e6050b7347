/- The abstract machine, fourteen: calls: what comes back. -/
import Derived.Test.YtfnnbjkjfoiboaaA13
namespace Go.Proofs.Ytfnnbjkjfoiboaa
open Go.RowKit

mutual
def rofrV : AV → Bool
  | .c x => rofr x
  | .ag l => rofrL l
  | .tu l => rofrVL l
def rofrVL : List AV → Bool
  | [] => true
  | c :: r => rofrV c && rofrVL r
end
section
variable {w : World} {St St' : Nat → Prop} {φ : Nat → Lc} {K : Nat → Prop}
mutual
theorem VRF.rofr_ : ∀ {x : AV} {u : Value} {fp : List Nat}, rofrV x = true → VRF w St φ K x u fp → VRF w St' φ K x u fp
  | .c x, u, fp, h, h1 => by simp only [VRF, rofrV] at h h1 ⊢; exact CR.rofr_ x u fp h h1
  | .ag l, u, fp, h, h1 => by simp only [VRF, rofrV] at h h1 ⊢; obtain ⟨us, e, h1⟩ := h1; exact ⟨us, e, h1.rofr_ h⟩
  | .tu l, u, fp, h, h1 => by simp only [VRF, rofrV] at h h1 ⊢; obtain ⟨us, e, h1⟩ := h1; exact ⟨us, e, VRFL.rofr_ h h1⟩
theorem VRFL.rofr_ : ∀ {l : List AV} {us : List Value} {fp : List Nat}, rofrVL l = true → VRFL w St φ K l us fp → VRFL w St' φ K l us fp
  | [], us, fp, _, h1 => by simp only [VRFL] at h1 ⊢; exact h1
  | c :: r, us, fp, h, h1 => by
    simp only [VRFL, rofrVL, Bool.and_eq_true] at h h1 ⊢
    obtain ⟨u, us', f, f', e1, e2, h2, h3⟩ := h1
    exact ⟨u, us', f, f', e1, e2, VRF.rofr_ h.1 h2, VRFL.rofr_ h.2 h3⟩
end
theorem CR.sub_ (hS : ∀ b, St b → St' b) (c : AC) (u : Value) (fp : List Nat) (h : CR w St φ K c u fp) : CR w St' φ K c u fp := CR.mono (fun b hb _ => ⟨hS b hb, rfl⟩) (Nat.le_refl _) (fun _ hi => ⟨hi, rfl⟩) c u fp (fun _ _ => rfl) h
theorem CRL.sub_ (hS : ∀ b, St b → St' b) {c : List AC} {u : List Value} {fp : List Nat} (h : CRL w St φ K c u fp) : CRL w St' φ K c u fp := h.mono (fun b hb _ => ⟨hS b hb, rfl⟩) (Nat.le_refl _) (fun _ hi => ⟨hi, rfl⟩) (fun _ _ => rfl)
mutual
theorem VRF.sub_ (hS : ∀ b, St b → St' b) : ∀ {x : AV} {u : Value} {fp : List Nat}, VRF w St φ K x u fp → VRF w St' φ K x u fp
  | .c x, u, fp, h1 => by simp only [VRF] at h1 ⊢; exact CR.sub_ hS x u fp h1
  | .ag l, u, fp, h1 => by simp only [VRF] at h1 ⊢; obtain ⟨us, e, h1⟩ := h1; exact ⟨us, e, CRL.sub_ hS h1⟩
  | .tu l, u, fp, h1 => by simp only [VRF] at h1 ⊢; obtain ⟨us, e, h1⟩ := h1; exact ⟨us, e, VRFL.sub_ hS h1⟩
theorem VRFL.sub_ (hS : ∀ b, St b → St' b) : ∀ {l : List AV} {us : List Value} {fp : List Nat}, VRFL w St φ K l us fp → VRFL w St' φ K l us fp
  | [], us, fp, h1 => by simp only [VRFL] at h1 ⊢; exact h1
  | c :: r, us, fp, h1 => by
    simp only [VRFL] at h1 ⊢
    obtain ⟨u, us', f, f', e1, e2, h2, h3⟩ := h1
    exact ⟨u, us', f, f', e1, e2, VRF.sub_ hS h2, VRFL.sub_ hS h3⟩
end
end
def fBk (φ : Nat → Lc) (F F' : Nat → List Nat) (D : List Nat) (i : Nat) : List Nat :=
  match idx i D with
  | some d => (match φ i with | .box .. => F' d | .slc u => obl u ++ F' d)
  | none => F i
section
variable {P : Program} {C : Ctx} {φ : Nat → Lc} {F : Nat → List Nat} {St : Nat → Prop} {σ : AS} {a : Act} {w w' : World} {D : List Nat} {pars : List (List AC)}
theorem owns_back {T : TypeId} {k n b c : Nat} {us vs : List Value} {R : Nat → Prop} (h : w.ownsRow 0 T k (.slice (some ⟨b, 0, none⟩) n c) n us) (hl : LikeBut R w.heap[b]? w'.heap[b]?) (hb : BoxAt w' b 0 vs) (hlen : vs.length = us.length) : w'.ownsRow 0 T k (.slice (some ⟨b, 0, none⟩) n c) n vs := by
  obtain ⟨hlu, ⟨hv, _⟩ | ⟨g, cap, cur, hv, hz, hh, hn, hc, hs, ht⟩⟩ := h
  · cases hv
  · injection hv with hv1 hv2 hv3
    injection hv1 with hv1
    injection hv1 with hv1
    subst hv1 hv3
    obtain ⟨cur', h1, h2⟩ : ∃ cur' : Array Value, w'.heap[b]? = some (.cells cur' T (0, 0)) ∧ cur'.size = cur.size := by
      rcases hl with e | ⟨x, y, e, g1, g2, g3, _⟩
      · exact ⟨cur, e.trans hh, rfl⟩
      · rw [hh] at g1
        injection g1 with g1
        injection g1 with g1 g1'
        subst g1 g1'
        exact ⟨y, g2, g3⟩
    obtain ⟨cs2, T2, h3, h4⟩ := hb
    rw [h1] at h3
    injection h3 with h3
    injection h3 with h3 h3'
    subst h3 h3'
    refine ⟨by rw [hlen, hlu], .inr ⟨b, c, cur', rfl, hz, h1, hn, hc, by rw [h2, hs], ?_⟩⟩
    have hle : n * k ≤ c * k := Nat.mul_le_mul_right k hn
    apply List.ext_getElem?
    intro j
    rw [List.getElem?_take]
    by_cases hj : j < n * k
    · rw [if_pos hj]
      have hj' : j < vs.length := by rw [hlen, hlu]; exact hj
      have := h4 j vs[j] (List.getElem?_eq_getElem hj')
      rw [Nat.zero_add, ← Array.getElem?_toList] at this
      rw [this, List.getElem?_eq_getElem hj']
    · rw [if_neg hj, List.getElem?_eq_none (by rw [hlen, hlu]; omega)]
theorem SimF.back (h : SimF C φ F St σ a w) (hl : lend σ.hp D = some pars) {R : List Nat} {res : AV} {u : Value} {rows : List (List AC)} {St' : Nat → Prop} {F' : Nat → List Nat} {G : List Nat}
    (hx : Ext w w' (stC St σ F R) (φC φ D) (fC φ F D) pars res u rows St' F' G) {hp3 : Nat → Option Row}
    (hhp : ∀ i s, hp3 i = some s → (∃ d r c, idx i D = some d ∧ σ.hp i = some r ∧ rows[d]? = some c ∧ s = { r with cs := c }) ∨ (idx i D = none ∧ σ.hp i = some s))
    (hm : (rofrV res = true ∧ ∀ c ∈ rows, rofrL c = true) ∨ ∀ i ∈ R, hp3 i = none) :
    ∃ St3, SimF C φ (fBk φ F F' D) St3 { σ with hp := hp3 } a w' ∧ VRF w' St3 φ0 K0 res u G ∧ ∀ b ∈ G, Free C φ (fBk φ F F' D) St3 { σ with hp := hp3 } b := by
  have hn := lend_len hl
  have hD := lend_nodup hl
  have get : ∀ d, d < pars.length → ∃ i, D[d]? = some i := fun d hd => ⟨_, List.getElem?_eq_getElem (by omega)⟩
  have ne : ∀ {d e i j : Nat}, D[d]? = some i → D[e]? = some j → d ≠ e → i ≠ j := fun hd he hne hij => hne (by subst hij; exact nodup_at hD hd he)
  have dlt : ∀ {d i : Nat}, D[d]? = some i → d < pars.length := fun hd => by rw [hn]; exact (List.getElem?_eq_some_iff.1 hd).1
  have nl : ∀ {b : Nat}, lentM (fC φ F D) pars.length b → ∃ i r, i ∈ D ∧ σ.hp i = some r ∧ b ∈ F i := by
    rintro b ⟨d, hd, hb⟩
    obtain ⟨i, hi⟩ := get d hd
    obtain ⟨r, _, _, _, h1, _⟩ := lent_info h hl hi
    exact ⟨i, r, List.mem_of_getElem? hi, h1, lent_sub h hl hi hb⟩
  have nr : ∀ {b o : Nat}, lentR (φC φ D) pars b o → (∃ i r lo, i ∈ D ∧ σ.hp i = some r ∧ φ i = .box b lo ∧ lo ≤ o ∧ o < lo + r.cs.length) ∨ (∃ i r, i ∈ D ∧ σ.hp i = some r ∧ b ∈ F i) := by
    rintro b o ⟨d, lo, cs, h1, h2, h3, h4⟩
    obtain ⟨i, hi⟩ := get d (List.getElem?_eq_some_iff.1 h1).1
    obtain ⟨r, g, lo2, vs, g1, _, g3, g4, _, _, hh⟩ := lent_info h hl hi
    rw [h2] at g4; injection g4 with g4 g5; subst g4 g5
    rw [h1] at g3; injection g3 with g3; subst g3
    rcases hh with ⟨_, e, _⟩ | ⟨_, _, e, _⟩
    · exact .inl ⟨i, r, lo, List.mem_of_getElem? hi, g1, e, h3, h4⟩
    · exact .inr ⟨i, r, List.mem_of_getElem? hi, g1, by rw [e]; exact List.mem_cons_self⟩
  have hsz := hx.frm.size
  have keep : ∀ b, b < w.heap.size → (∀ i r, σ.hp i = some r → i ∈ D → b ∉ F i ∧ ∀ lo, φ i ≠ .box b lo) → w'.heap[b]? = w.heap[b]? := fun b hb hh => by
    refine (hx.frm.blk b hb fun hM => ?_).same fun o hR => ?_
    · obtain ⟨i, r, h1, h2, h3⟩ := nl hM
      exact (hh i r h2 h1).1 h3
    · rcases nr hR with ⟨i, r, lo, h1, h2, h3, _⟩ | ⟨i, r, h1, h2, h3⟩
      · exact (hh i r h2 h1).2 lo h3
      · exact (hh i r h2 h1).1 h3
  have stK : ∀ b, St b → b < w.heap.size → w'.heap[b]? = w.heap[b]? := fun b hb hlt => keep b hlt fun i r hr _ => ⟨fun hf => h.stF i r b hr hf hb, fun lo e => h.stB i r b lo hr e hb⟩
  have fK : ∀ j s b, σ.hp j = some s → j ∉ D → b ∈ F j → w'.heap[b]? = w.heap[b]? := fun j s b hj hjD hb => keep b ((h.row j s hj).2.lt b hb) fun i r hr hi =>
    have hij : i ≠ j := fun e => hjD (e ▸ hi)
    ⟨fun hf => h.dis i j r s hr hj hij b hf hb, fun lo e => h.bxF i j r s b lo hr hj e hb⟩
  have bxlt : ∀ j s b lo, σ.hp j = some s → φ j = .box b lo → b < w.heap.size := fun j s b lo hj e => by
    have h1 := (h.row j s hj).2
    rw [e] at h1
    obtain ⟨_, us, _, h2⟩ := h1
    exact h2.lt
  have Flt : ∀ j s b, σ.hp j = some s → b ∈ F j → b < w.heap.size := fun j s b hj hb => (h.row j s hj).2.lt b hb
  have own' : ∀ b, (lentM (fC φ F D) pars.length b ∨ w.heap.size ≤ b) → C.M b ∨ C.w0.heap.size ≤ b := fun b hb => by
    rcases hb with hM | hb
    · obtain ⟨i, r, _, h2, h3⟩ := nl hM; exact h.own i r b h2 h3
    · exact .inr (Nat.le_trans h.frm.size hb)
  -- what a row of after is
  have row3 : ∀ i s, hp3 i = some s → (∃ d r c b lo, idx i D = some d ∧ D[d]? = some i ∧ i ∈ D ∧ d < pars.length ∧ σ.hp i = some r ∧ rows[d]? = some c ∧ s = { r with cs := c } ∧ c.length = r.cs.length ∧ φC φ D d = .box b lo ∧
      ((φ i = .box b lo ∧ fBk φ F F' D i = F' d) ∨ (∃ n cc, φ i = .slc (.slice (some ⟨b, 0, none⟩) n cc) ∧ fBk φ F F' D i = b :: F' d ∧ b ∈ F i))) ∨ (i ∉ D ∧ σ.hp i = some s ∧ fBk φ F F' D i = F i) := by
    intro i s hs
    rcases hhp i s hs with ⟨d, r, c, h1, h2, h3, h4⟩ | ⟨h1, h2⟩
    · have hd := idx_some h1
      obtain ⟨r', b, lo, us, g1, _, g3, g4, _, _, hh⟩ := lent_info h hl hd
      rw [h2] at g1; injection g1 with g1; subst g1
      obtain ⟨_, _, _, _, _, _, cs0, q1, q2⟩ := hx.row d c h3
      rw [g3] at q1; injection q1 with q1; subst q1
      refine .inl ⟨d, r, c, b, lo, h1, hd, List.mem_of_getElem? hd, dlt hd, h2, h3, h4, q2, g4, ?_⟩
      rcases hh with ⟨_, e, _⟩ | ⟨_, _, e', cc, e, _⟩
      · exact .inl ⟨e, by simp [fBk, h1, e]⟩
      · exact .inr ⟨r.n, cc, e, by simp [fBk, h1, e, obl, Value.ownBlock], by rw [e']; exact List.mem_cons_self⟩
    · exact .inr ⟨idx_none h1, h2, by simp [fBk, h1]⟩
  have key : ∀ St3 : Nat → Prop, (∀ b, St b → b < w.heap.size → St3 b) → (∀ i s b, hp3 i = some s → b ∈ fBk φ F F' D i → ¬ St3 b) → (∀ i s b lo, hp3 i = some s → φ i = .box b lo → ¬ St3 b) → (∀ b ∈ G, ¬ St3 b) →
      (∀ b, St3 b → b < C.w0.heap.size → C.S0 b ∨ C.M b) → (∀ d c vs, rows[d]? = some c → CRL w' St' φ0 K0 c vs (F' d) → CRL w' St3 φ0 K0 c vs (F' d)) → VRF w' St3 φ0 K0 res u G →
      ∃ St3, SimF C φ (fBk φ F F' D) St3 { σ with hp := hp3 } a w' ∧ VRF w' St3 φ0 K0 res u G ∧ ∀ b ∈ G, Free C φ (fBk φ F F' D) St3 { σ with hp := hp3 } b := by
    intro St3 s1 s2 s3 s4 s5 s6 s7
    have hS : ∀ b, St b → b < w.heap.size → St3 b ∧ w'.heap[b]? = w.heap[b]? := fun b hb hlt => ⟨s1 b hb hlt, stK b hb hlt⟩
    have hK : ∀ i, σ.Kn i → σ.Kn i ∧ φ i = φ i := fun i hi => ⟨hi, rfl⟩
    have bxk : ∀ i s b lo, hp3 i = some s → φ i = .box b lo → b ∉ G ∧ ∀ j t, hp3 j = some t → b ∉ fBk φ F F' D j := by
      intro i s b lo hs e
      rcases row3 i s hs with ⟨d, r, c, b', lo', _, hd, hiD, hdl, hr, _, _, _, hφ, hh⟩ | ⟨hiD, hr, _⟩
      · obtain ⟨rfl, rfl⟩ : b' = b ∧ lo' = lo := by
          rcases hh with ⟨e', _⟩ | ⟨n, cc, e', _⟩
          · rw [e] at e'; injection e' with e1 e2; exact ⟨e1.symm, e2.symm⟩
          · rw [e] at e'; cases e'
        have hb := hx.bxF d b' lo' hdl hφ
        refine ⟨hb.1, fun j t ht => ?_⟩
        rcases row3 j t ht with ⟨d2, r2, c2, b2, lo2, _, hd2, hjD, hdl2, hr2, _, _, _, hφ2, hh2⟩ | ⟨hjD, hr2, ef⟩
        · rcases hh2 with ⟨_, ef⟩ | ⟨n, cc, _, ef, hb2⟩
          · rw [ef]; exact hb.2 d2 hdl2
          · rw [ef]
            intro hm
            rcases List.mem_cons.1 hm with rfl | hm
            · exact h.bxF i j r r2 b' lo' hr hr2 e hb2
            · exact hb.2 d2 hdl2 hm
        · rw [ef]; exact h.bxF i j r t b' lo' hr hr2 e
      · have hlt := bxlt i s b lo hr e
        have hnM : ¬ lentM (fC φ F D) pars.length b := fun hM => by obtain ⟨i', r', _, h2, h3⟩ := nl hM; exact h.bxF i i' s r' b lo hr h2 e h3
        refine ⟨fun hG => (hx.own b (.inl hG)).elim hnM (by omega), fun j t ht => ?_⟩
        rcases row3 j t ht with ⟨d2, r2, c2, b2, lo2, _, hd2, hjD, hdl2, hr2, _, _, _, hφ2, hh2⟩ | ⟨hjD, hr2, ef⟩
        · have hF : b ∉ F' d2 := fun hb => (hx.own b (.inr ⟨d2, hdl2, hb⟩)).elim hnM (by omega)
          rcases hh2 with ⟨_, ef⟩ | ⟨n, cc, _, ef, hb2⟩
          · rw [ef]; exact hF
          · rw [ef]
            intro hm
            rcases List.mem_cons.1 hm with rfl | hm
            · exact h.bxF i j s r2 b lo hr hr2 e hb2
            · exact hF hm
        · rw [ef]; exact h.bxF i j s t b lo hr hr2 e
    have Gk : ∀ i s b, hp3 i = some s → b ∈ fBk φ F F' D i → b ∉ G := by
      intro i s b hs hb hG
      rcases row3 i s hs with ⟨d, r, c, b', lo', _, hd, hiD, hdl, hr, _, _, _, hφ, hh⟩ | ⟨hiD, hr, ef⟩
      · rcases hh with ⟨_, ef⟩ | ⟨n, cc, _, ef, hb2⟩
        · rw [ef] at hb; exact hx.disG d hdl b hb hG
        · rw [ef] at hb
          rcases List.mem_cons.1 hb with rfl | hb
          · exact (hx.bxF d b lo' hdl hφ).1 hG
          · exact hx.disG d hdl b hb hG
      · rw [ef] at hb
        have hlt := Flt i s b hr hb
        refine (hx.own b (.inl hG)).elim (fun hM => ?_) (by omega)
        obtain ⟨i', r', h1, h2, h3⟩ := nl hM
        exact h.dis i' i r' s h2 hr (fun e => hiD (e ▸ h1)) b h3 hb
    refine ⟨St3, ⟨h.dfr, h.len, fun t => VR.mono hS hsz hK _ _ (h.tms t), fun i s hs => ?_, fun i s hs => ?_, fun i j s t hs ht hij b hb => ?_, fun i j s t b lo hs ht e => (bxk i s b lo hs e).2 j t ht, fun i j s t b lo lo' hs ht hij e e' => ?_, s2, s3, ?_, fun i s b hs hb => ?_, fun i hi => ⟨(h.par i hi).1, fun s hs j hj => ?_⟩, fun i s b lo hs e hN => ?_, h.gnN, s5⟩, s7, fun b hb => ⟨fun j s hj => ⟨fun hf => Gk j s b hj hf hb, fun lo e => (bxk j s b lo hj e).1 hb⟩, s4 b hb, own' b (hx.own b (.inl hb))⟩⟩
    · -- row
      rcases row3 i s hs with ⟨d, r, c, b, lo, hidx, hd, hiD, hdl, hr, hc, rfl, hlen, hφ, hh⟩ | ⟨hiD, hr, ef⟩
      · refine ⟨(h.row i r hr).1, ?_⟩
        obtain ⟨b1, lo1, vs, q1, q2, q3, _⟩ := hx.row d c hc
        rw [hφ] at q1; injection q1 with q1 q1'; subst q1 q1'
        have q4 : CRL w' St3 φ σ.Kn c vs (F' d) := (s6 d c vs hc q2).mono (fun b hb _ => ⟨hb, rfl⟩) (Nat.le_refl _) (fun i hi => hi.elim) (fun _ _ => rfl)
        have hrow := (h.row i r hr).2
        rcases hh with ⟨e, ef⟩ | ⟨n, cc, e, ef, hbF⟩
        · rw [e] at hrow ⊢
          rw [ef]
          exact ⟨hrow.1, vs, q4, q3⟩
        · obtain ⟨r', b', lo', us, g1, _, g3, g4, g5, g6, hh⟩ := lent_info h hl hd
          rw [hr] at g1; injection g1 with g1; subst g1
          rw [hφ] at g4; injection g4 with g4 g4'; subst g4 g4'
          rcases hh with ⟨_, e', _⟩ | ⟨hb, hlo, eF, cc', e', hown⟩
          · rw [e] at e'; cases e'
          · subst hlo
            rw [ef, e']
            have hlt := Flt i r b hr hbF
            have hnM : ¬ lentM (fC φ F D) pars.length b := by
              rintro ⟨d2, hd2, hb2⟩
              obtain ⟨i2, hi2⟩ := get d2 hd2
              by_cases hde : d2 = d
              · subst hde
                have := h.nod i r hr; rw [eF] at this
                exact (List.nodup_cons.1 this).1 hb2
              · obtain ⟨r2, _, _, _, k1, _⟩ := lent_info h hl hi2
                exact h.dis i2 i r2 r k1 hr (ne hi2 hd hde) b (lent_sub h hl hi2 hb2) hbF
            refine ⟨hb, vs, F' d, q4, owns_back hown (hx.frm.blk b hlt hnM) q3 ?_, by simp [obl, Value.ownBlock]⟩
            rw [q2.len, hlen, g5.len]
      · refine ⟨(h.row i s hr).1, ?_⟩
        rw [ef]
        refine (h.row i s hr).2.mono hS hsz hK (fun b hb => fK i s b hr hiD hb) fun b lo us e hlu hB => ?_
        have hlt := hB.lt
        have hnM : ¬ lentM (fC φ F D) pars.length b := fun hM => by obtain ⟨i', r', _, h2, h3⟩ := nl hM; exact h.bxF i i' s r' b lo hr h2 e h3
        obtain ⟨cs, T, h1, h2⟩ := hB
        rcases hx.frm.blk b hlt hnM with e' | ⟨x, y, T', k1, k2, k3, k4⟩
        · exact ⟨cs, T, e'.trans h1, h2⟩
        · rw [h1] at k1
          injection k1 with k1
          injection k1 with k1 k1'
          subst k1 k1'
          refine ⟨y, T, k2, fun j x hjx => ?_⟩
          rw [k4 (lo + j) ?_]
          · exact h2 j x hjx
          · intro hR
            have hjl : j < us.length := (List.getElem?_eq_some_iff.1 hjx).1
            rcases nr hR with ⟨i', r', lo', p1, p2, p3, p4, p5⟩ | ⟨i', r', p1, p2, p3⟩
            · have := h.bxd i' i r' s b lo' lo p2 hr (fun e => hiD (e ▸ p1)) p3 e
              omega
            · exact h.bxF i i' s r' b lo hr p2 e p3
    · -- nodup
      rcases row3 i s hs with ⟨d, r, c, b, lo, hidx, hd, hiD, hdl, hr, hc, rfl, hlen, hφ, hh⟩ | ⟨hiD, hr, ef⟩
      · rcases hh with ⟨e, ef⟩ | ⟨n, cc, e, ef, hbF⟩
        · rw [ef]; exact hx.nod d hdl
        · rw [ef]; exact List.nodup_cons.2 ⟨(hx.bxF d b lo hdl hφ).2 d hdl, hx.nod d hdl⟩
      · rw [ef]; exact h.nod i s hr
    · -- disjoint
      have sub : ∀ i s b, hp3 i = some s → b ∈ fBk φ F F' D i → b ∈ F i ∨ (∃ d, idx i D = some d ∧ d < pars.length ∧ b ∈ F' d) := by
        intro i s b hs hb
        rcases row3 i s hs with ⟨d, r, c, b', lo, hidx, hd, hiD, hdl, hr, hc, _, hlen, hφ, hh⟩ | ⟨hiD, hr, ef⟩
        · rcases hh with ⟨e, ef⟩ | ⟨n, cc, e, ef, hbF⟩
          · rw [ef] at hb; exact .inr ⟨d, hidx, hdl, hb⟩
          · rw [ef] at hb
            rcases List.mem_cons.1 hb with rfl | hb
            · exact .inl hbF
            · exact .inr ⟨d, hidx, hdl, hb⟩
        · rw [ef] at hb; exact .inl hb
      have hpi : ∀ i s, hp3 i = some s → ∃ r, σ.hp i = some r := fun i s hs => by
        rcases row3 i s hs with ⟨_, r, _, _, _, _, _, _, _, hr, _⟩ | ⟨_, hr, _⟩
        · exact ⟨r, hr⟩
        · exact ⟨s, hr⟩
      have mix : ∀ i j s t b, hp3 i = some s → hp3 j = some t → i ≠ j → b ∈ fBk φ F F' D i → b ∈ F i → ∀ d, idx j D = some d → d < pars.length → b ∈ F' d → False := by
        intro i j s t b hs ht hij hb hbi d hidx hdl hbd
        obtain ⟨r, hr⟩ := hpi i s hs
        obtain ⟨r2, hr2⟩ := hpi j t ht
        have hlt := Flt i r b hr hbi
        rcases row3 i s hs with ⟨d1, r1, c1, b1, lo1, hidx1, hd1, hiD1, hdl1, hr1, _, _, _, hφ1, hh1⟩ | ⟨hiD, hr', ef⟩
        · have hdd : d1 ≠ d := by
            rintro rfl
            have h1 := idx_some hidx1
            have h2 := idx_some hidx
            rw [h1] at h2; injection h2 with h2; exact hij h2
          rcases hh1 with ⟨_, ef⟩ | ⟨n, cc, _, ef, _⟩
          · rw [ef] at hb; exact hx.dis d1 d hdl1 hdl hdd b hb hbd
          · rw [ef] at hb
            rcases List.mem_cons.1 hb with rfl | hb
            · exact (hx.bxF d1 b lo1 hdl1 hφ1).2 d hdl hbd
            · exact hx.dis d1 d hdl1 hdl hdd b hb hbd
        · refine (hx.own b (.inr ⟨d, hdl, hbd⟩)).elim (fun hM => ?_) (by omega)
          obtain ⟨i', r', h1, h2, h3⟩ := nl hM
          exact h.dis i' i r' r h2 hr (fun e => hiD (e ▸ h1)) b h3 hbi
      intro hb'
      rcases sub i s b hs hb with h1 | ⟨d, h1, h2, h3⟩
      · rcases sub j t b ht hb' with h4 | ⟨d, h4, h5, h6⟩
        · obtain ⟨r, hr⟩ := hpi i s hs
          obtain ⟨r2, hr2⟩ := hpi j t ht
          exact h.dis i j r r2 hr hr2 hij b h1 h4
        · exact mix i j s t b hs ht hij hb h1 d h4 h5 h6
      · rcases sub j t b ht hb' with h4 | ⟨d', h4, h5, h6⟩
        · exact mix j i t s b ht hs (Ne.symm hij) hb' h4 d h1 h2 h3
        · refine hx.dis d d' h2 h5 ?_ b h3 h6
          rintro rfl
          have e1 := idx_some h1
          have e2 := idx_some h4
          rw [e1] at e2; injection e2 with e2; exact hij e2
    · -- boxes apart
      have len : ∀ i s, hp3 i = some s → ∃ r, σ.hp i = some r ∧ s.cs.length = r.cs.length := fun i s hs => by
        rcases row3 i s hs with ⟨_, r, c, _, _, _, _, _, _, hr, _, rfl, hlen, _⟩ | ⟨_, hr, _⟩
        · exact ⟨r, hr, hlen⟩
        · exact ⟨s, hr, rfl⟩
      obtain ⟨r, hr, e1⟩ := len i s hs
      obtain ⟨r2, hr2, e2⟩ := len j t ht
      rw [e1, e2]
      exact h.bxd i j r r2 b lo lo' hr hr2 hij e e'
    · -- frame
      have hf := h.frm
      refine ⟨hx.frm.os.trans hf.os, hx.frm.tape.trans hf.tape, hx.frm.output.trans hf.output, Nat.le_trans hf.size hsz, fun b hb hM => (hf.blk b hb hM).trans ?_⟩
      refine (hx.frm.blk b (Nat.lt_of_lt_of_le hb hf.size) fun hM' => ?_).mono fun o hR => ?_
      · obtain ⟨i, r, _, h2, h3⟩ := nl hM'
        exact (h.own i r b h2 h3).elim hM (by omega)
      · rcases nr hR with ⟨i, r, lo, _, h2, h3, h4, h5⟩ | ⟨i, r, _, h2, h3⟩
        · rcases Nat.lt_or_ge i C.N with hi | hi
          · obtain ⟨p1, p2⟩ := h.par i hi
            rw [h3] at p1
            injection p1 with p1 p1'
            have := p2 r h2 (o - lo) (by omega)
            rw [← p1, ← p1', show lo + (o - lo) = o by omega] at this
            exact this
          · have := h.new i r b lo h2 h3 hi
            omega
        · exact ((h.own i r b h2 h3).elim hM (by omega)).elim
    · -- own
      rcases row3 i s hs with ⟨d, r, c, b', lo, hidx, hd, hiD, hdl, hr, hc, _, hlen, hφ, hh⟩ | ⟨hiD, hr, ef⟩
      · rcases hh with ⟨e, ef⟩ | ⟨n, cc, e, ef, hbF⟩
        · rw [ef] at hb; exact own' b (hx.own b (.inr ⟨d, hdl, hb⟩))
        · rw [ef] at hb
          rcases List.mem_cons.1 hb with rfl | hb
          · exact h.own i r b hr hbF
          · exact own' b (hx.own b (.inr ⟨d, hdl, hb⟩))
      · rw [ef] at hb; exact h.own i s b hr hb
    · -- par
      rcases row3 i s hs with ⟨d, r, c, b', lo, _, _, _, _, hr, _, rfl, hlen, _⟩ | ⟨_, hr, _⟩
      · exact (h.par i hi).2 r hr j (by simpa [hlen] using hj)
      · exact (h.par i hi).2 s hr j hj
    · -- new
      rcases row3 i s hs with ⟨d, r, c, b', lo', _, _, _, _, hr, _⟩ | ⟨_, hr, _⟩
      · exact h.new i r b lo hr e hN
      · exact h.new i s b lo hr e hN
  have lentF : ∀ d b, d < pars.length → b ∈ F' d → ¬ (St b ∧ b < w.heap.size) := fun d b hd hb hS => (hx.own b (.inr ⟨d, hd, hb⟩)).elim (fun hM => by obtain ⟨i, r, _, h2, h3⟩ := nl hM; exact h.stF i r b h2 h3 hS.1) (by omega)
  have one2 : ∀ i s b, hp3 i = some s → b ∈ fBk φ F F' D i → ¬ (St b ∧ b < w.heap.size) := by
    intro i s b hs hb hS
    rcases row3 i s hs with ⟨d, r, c, b', lo, hidx, hd, hiD, hdl, hr, hc, _, hlen, hφ, hh⟩ | ⟨hiD, hr, ef⟩
    · rcases hh with ⟨e, ef⟩ | ⟨n, cc, e, ef, hbF⟩
      · rw [ef] at hb; exact lentF d b hdl hb hS
      · rw [ef] at hb
        rcases List.mem_cons.1 hb with rfl | hb
        · exact h.stF i r b hr hbF hS.1
        · exact lentF d b hdl hb hS
    · rw [ef] at hb; exact h.stF i s b hr hb hS.1
  have one3 : ∀ i s b lo, hp3 i = some s → φ i = .box b lo → ¬ (St b ∧ b < w.heap.size) := by
    intro i s b lo hs e hS
    rcases row3 i s hs with ⟨d, r, c, b', lo', _, _, _, _, hr, _⟩ | ⟨_, hr, _⟩
    · exact h.stB i r b lo hr e hS.1
    · exact h.stB i s b lo hr e hS.1
  have one4 : ∀ b ∈ G, ¬ (St b ∧ b < w.heap.size) := fun b hb hS => (hx.own b (.inl hb)).elim (fun hM => by obtain ⟨i, r, _, h2, h3⟩ := nl hM; exact h.stF i r b h2 h3 hS.1) (by omega)
  rcases hm with ⟨m1, m2⟩ | hm
  · exact key (fun b => St b ∧ b < w.heap.size) (fun b hb hlt => ⟨hb, hlt⟩) one2 one3 one4 (fun b hb => h.stS b hb.1) (fun d c vs hc hq => hq.rofr_ (m2 c (List.mem_of_getElem? hc))) (hx.res.rofr_ m1)
  · refine key (fun b => (St b ∧ b < w.heap.size) ∨ St' b) (fun b hb hlt => .inl ⟨hb, hlt⟩) ?_ ?_ ?_ ?_ (fun d c vs hc hq => CRL.sub_ (fun b hb => .inr hb) hq) (VRF.sub_ (fun b hb => .inr hb) hx.res)
    · rintro i s b hs hb (hS | hS)
      · exact one2 i s b hs hb hS
      · obtain ⟨t1, t2, t3⟩ := hx.sta b hS
        rcases row3 i s hs with ⟨d, r, c, b', lo, hidx, hd, hiD, hdl, hr, hc, _, hlen, hφ, hh⟩ | ⟨hiD, hr, ef⟩
        · rcases hh with ⟨e, ef⟩ | ⟨n, cc, e, ef, hbF⟩
          · rw [ef] at hb; exact (t3 d hdl).1 hb
          · rw [ef] at hb
            rcases List.mem_cons.1 hb with rfl | hb
            · exact (t3 d hdl).2 lo hφ
            · exact (t3 d hdl).1 hb
        · rw [ef] at hb
          rcases t1 (Flt i s b hr hb) with (h1 | ⟨z, hz, r, hzr, hbz⟩) | hM
          · exact h.stF i s b hr hb h1
          · refine h.dis z i r s hzr hr ?_ b hbz hb
            rintro rfl
            rw [hm z hz] at hs; cases hs
          · obtain ⟨i', r', h1, h2, h3⟩ := nl hM
            exact h.dis i' i r' s h2 hr (fun e => hiD (e ▸ h1)) b h3 hb
    · rintro i s b lo hs e (hS | hS)
      · exact one3 i s b lo hs e hS
      · obtain ⟨t1, t2, t3⟩ := hx.sta b hS
        rcases row3 i s hs with ⟨d, r, c, b', lo', hidx, hd, hiD, hdl, hr, hc, _, hlen, hφ, hh⟩ | ⟨hiD, hr, ef⟩
        · rcases hh with ⟨e', ef⟩ | ⟨n, cc, e', _⟩
          · rw [e] at e'; injection e' with e1 e2; subst e1 e2
            exact (t3 d hdl).2 lo hφ
          · rw [e] at e'; cases e'
        · rcases t1 (bxlt i s b lo hr e) with (h1 | ⟨z, hz, r, hzr, hbz⟩) | hM
          · exact h.stB i s b lo hr e h1
          · exact h.bxF i z s r b lo hr hzr e hbz
          · obtain ⟨i', r', h1, h2, h3⟩ := nl hM
            exact h.bxF i i' s r' b lo hr h2 e h3
    · rintro b hb (hS | hS)
      · exact one4 b hb hS
      · exact (hx.sta b hS).2.1 hb
    · rintro b (hS | hS) hlt
      · exact h.stS b hS.1 hlt
      · rcases (hx.sta b hS).1 (Nat.lt_of_lt_of_le hlt h.frm.size) with (h1 | ⟨z, hz, r, hzr, hbz⟩) | hM
        · exact h.stS b h1 hlt
        · exact .inr ((h.own z r b hzr hbz).resolve_right (by omega))
        · obtain ⟨i, r, _, h2, h3⟩ := nl hM
          exact .inr ((h.own i r b h2 h3).resolve_right (by omega))
end
end Go.Proofs.Ytfnnbjkjfoiboaa
