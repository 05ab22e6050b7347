/- The abstract machine, seventeen: calls, as operations. -/
import Derived.Test.YtfnnbjkjfoiboaaA16
namespace Go.Proofs.Ytfnnbjkjfoiboaa
open Go.RowKit

/-- What comes back closed is opened: each slice that is held becomes a row. -/
def opC (id : Nat) : AC → AC × List (Nat × Row)
  | .ow T n k l => (.sl id n, [(id, ⟨T, k, n, false, l⟩)])
  | .v x => (.v x, [])
  | .ro n k l => (.ro n k l, [])
  | .rp l o => (.rp l o, [])
  | .fn f c => (.fn f c, [])
  | _ => (.un, [])
def opL (id : Nat) : List AC → List AC × List (Nat × Row)
  | [] => ([], [])
  | c :: r => ((opC id c).1 :: (opL (id + (opC id c).2.length) r).1, (opC id c).2 ++ (opL (id + (opC id c).2.length) r).2)
mutual
def opV (id : Nat) : AV → AV × List (Nat × Row)
  | .c x => (.c (opC id x).1, (opC id x).2)
  | .ag l => (.ag (opL id l).1, (opL id l).2)
  | .tu l => (.tu (opVL id l).1, (opVL id l).2)
def opVL (id : Nat) : List AV → List AV × List (Nat × Row)
  | [] => ([], [])
  | c :: r => ((opV id c).1 :: (opVL (id + (opV id c).2.length) r).1, (opV id c).2 ++ (opVL (id + (opV id c).2.length) r).2)
end
def growL (σ : AS) : List (Nat × Row) → AS
  | [] => σ
  | (i, r) :: l => growL (σ.grow i r) l
theorem growL_app (σ : AS) : ∀ (l m : List (Nat × Row)), growL σ (l ++ m) = growL (growL σ l) m
  | [], m => rfl
  | (i, r) :: l, m => growL_app (σ.grow i r) l m
theorem growL_us : ∀ (l : List (Nat × Row)) (σ : AS) (i : Nat), i ∈ (growL σ l).us ↔ (∃ p ∈ l, p.1 = i) ∨ i ∈ σ.us
  | [], σ, i => by simp [growL]
  | (j, r) :: l, σ, i => by
    rw [growL, growL_us l]
    simp only [AS.grow, List.mem_cons, exists_eq_or_imp]
    constructor
    · rintro (h | h | h)
      · exact .inl (.inr h)
      · exact .inl (.inl h.symm)
      · exact .inr h
    · rintro ((h | h) | h)
      · exact .inr (.inl h.symm)
      · exact .inl h
      · exact .inr (.inr h)
theorem growL_f : ∀ (l : List (Nat × Row)) (σ : AS), (growL σ l).tm = σ.tm ∧ (growL σ l).gn = σ.gn ∧ (growL σ l).L = σ.L ∧ (growL σ l).hp = updL σ.hp (l.map fun p => (p.1, some p.2))
  | [], σ => ⟨rfl, rfl, rfl, rfl⟩
  | (j, r) :: l, σ => growL_f l (σ.grow j r)
section
variable {P : Program} {C : Ctx} {φ φ' : Nat → Lc} {F F' : Nat → List Nat} {St St' : Nat → Prop} {σ σ' : AS} {a : Act} {w : World}
structure Opn (C : Ctx) (φ : Nat → Lc) (F : Nat → List Nat) (St : Nat → Prop) (σ : AS) (a : Act) (w : World) (fp : List Nat) (σ' : AS) (φ' : Nat → Lc) (F' : Nat → List Nat) (St' : Nat → Prop) : Prop where
  sim : SimF C φ' F' St' σ' a w
  free : ∀ b, Free C φ F St σ b → b ∉ fp → Free C φ' F' St' σ' b
  hS : ∀ b, St b → b < w.heap.size → St' b
  hK : ∀ i, σ.Kn i → σ'.Kn i ∧ φ' i = φ i
theorem Opn.refl (h : SimF C φ F St σ a w) (fp : List Nat) : Opn C φ F St σ a w fp σ φ F St := ⟨h, fun b hb _ => hb, fun b hb _ => hb, fun i hi => ⟨hi, rfl⟩⟩
theorem Opn.trans {φ'' : Nat → Lc} {F'' : Nat → List Nat} {St'' : Nat → Prop} {σ'' : AS} {fp fp' : List Nat} (h : Opn C φ F St σ a w fp σ' φ' F' St') (k : Opn C φ' F' St' σ' a w fp' σ'' φ'' F'' St'') : Opn C φ F St σ a w (fp ++ fp') σ'' φ'' F'' St'' :=
  ⟨k.sim, fun b hb hn => k.free b (h.free b hb fun hm => hn (List.mem_append_left _ hm)) fun hm => hn (List.mem_append_right _ hm), fun b hb hl => k.hS b (h.hS b hb hl) hl, fun i hi => ⟨(k.hK i (h.hK i hi).1).1, (k.hK i (h.hK i hi).1).2.trans (h.hK i hi).2⟩⟩
theorem Opn.cr {fp : List Nat} (h : Opn C φ F St σ a w fp σ' φ' F' St') {c : AC} {u : Value} {f : List Nat} (hc : CR w St φ σ.Kn c u f) : CR w St' φ' σ'.Kn c u f := CR.mono (fun b hb hl => ⟨h.hS b hb hl, rfl⟩) (Nat.le_refl _) h.hK c u f (fun _ _ => rfl) hc
theorem Opn.crl {fp : List Nat} (h : Opn C φ F St σ a w fp σ' φ' F' St') {c : List AC} {u : List Value} {f : List Nat} (hc : CRL w St φ σ.Kn c u f) : CRL w St' φ' σ'.Kn c u f := hc.mono (fun b hb hl => ⟨h.hS b hb hl, rfl⟩) (Nat.le_refl _) h.hK (fun _ _ => rfl)
theorem Opn.vr {fp : List Nat} (h : Opn C φ F St σ a w fp σ' φ' F' St') {x : AV} {u : Value} (hc : VR w St φ σ.Kn x u) : VR w St' φ' σ'.Kn x u := VR.mono (fun b hb hl => ⟨h.hS b hb hl, rfl⟩) (Nat.le_refl _) h.hK x u hc
theorem CR.up (K : Nat → Prop) (φ : Nat → Lc) (hS : ∀ b, St b → b < w.heap.size → St' b) {c : AC} {u : Value} {f : List Nat} (hc : CR w St φ0 K0 c u f) : CR w St' φ K c u f := CR.mono (fun b hb hl => ⟨hS b hb hl, rfl⟩) (Nat.le_refl _) (fun i hi => hi.elim) c u f (fun _ _ => rfl) hc
theorem CRL.up (K : Nat → Prop) (φ : Nat → Lc) (hS : ∀ b, St b → b < w.heap.size → St' b) {c : List AC} {u : List Value} {f : List Nat} (hc : CRL w St φ0 K0 c u f) : CRL w St' φ K c u f := hc.mono (fun b hb hl => ⟨hS b hb hl, rfl⟩) (Nat.le_refl _) (fun i hi => hi.elim) (fun _ _ => rfl)
mutual
theorem VRF.up {St St' : Nat → Prop} (hS : ∀ b, St b → b < w.heap.size → St' b) : ∀ {x : AV} {u : Value} {f : List Nat}, VRF w St φ0 K0 x u f → VRF w St' φ0 K0 x u f
  | .c x, u, f, h => by simp only [VRF] at h ⊢; exact CR.up _ _ hS h
  | .ag l, u, f, h => by simp only [VRF] at h ⊢; obtain ⟨us, e, h⟩ := h; exact ⟨us, e, CRL.up _ _ hS h⟩
  | .tu l, u, f, h => by simp only [VRF] at h ⊢; obtain ⟨us, e, h⟩ := h; exact ⟨us, e, VRFL.up hS h⟩
theorem VRFL.up {St St' : Nat → Prop} (hS : ∀ b, St b → b < w.heap.size → St' b) : ∀ {x : List AV} {u : List Value} {f : List Nat}, VRFL w St φ0 K0 x u f → VRFL w St' φ0 K0 x u f
  | [], u, f, h => by simp only [VRFL] at h ⊢; exact h
  | c :: r, u, f, h => by
    simp only [VRFL] at h ⊢
    obtain ⟨v, vs, f1, f2, e1, e2, h1, h2⟩ := h
    exact ⟨v, vs, f1, f2, e1, e2, VRF.up hS h1, VRFL.up hS h2⟩
end
theorem opC_to (h : SimF C φ F St σ a w) {c : AC} {u : Value} {fp : List Nat} (hx : CR w St φ0 K0 c u fp) (hnd : fp.Nodup) (hfr : ∀ b ∈ fp, Free C φ F St σ b) {id : Nat} (hid : ∀ p ∈ (opC id c).2, σ.gn ≤ p.1 ∧ p.1 ∉ σ.us) :
    ∃ φ' F' St', Opn C φ F St σ a w fp (growL σ (opC id c).2) φ' F' St' ∧ CR w St' φ' (growL σ (opC id c).2).Kn (opC id c).1 u [] := by
  cases c with
  | ow T n k l =>
    simp only [CR] at hx
    obtain ⟨us, fs, g1, g2, rfl⟩ := hx
    have hf := hid (id, ⟨T, k, n, false, l⟩) (by simp [opC])
    have h' := h.newRow hf.1 hf.2 (b0 := none) (Stp.refl none w) (fun b hb => by cases hb) (r := ⟨T, k, n, false, l⟩) (L := .slc u) (fp := obl u ++ fs)
      (fun St' φ' hS hK => ⟨rfl, us, fs, CRL.up _ φ' (fun b hb hl => (hS b hb hl).1) g1, g2, rfl⟩) hnd (fun b hb => .inr (hfr b hb)) (fun b lo e => by cases e)
    have hnk : ¬ σ.Kn id := fun hk => hk.elim (fun h1 => absurd h1 (by have := hf.1; omega)) hf.2
    have hkn : ∀ j, σ.Kn j → j ≠ id := fun j hj e => hnk (e ▸ hj)
    refine ⟨_, _, _, ⟨h', fun b hb hn => ⟨fun j s hj => ?_, fun hs => hb.2.1 hs.1, hb.2.2⟩, fun b hb hl => ⟨hb, hl⟩, fun j hj => ⟨hj.imp (fun q => q) (List.mem_cons_of_mem _), upd_ne _ _ (hkn j hj)⟩⟩, ?_⟩
    · by_cases e : j = id
      · subst e
        simp only [upd_same]
        exact ⟨hn, fun lo e => by cases e⟩
      · have hj' : upd σ.hp id (some ⟨T, k, n, false, l⟩) j = some s := hj
        rw [upd_ne _ _ e] at hj'
        simp only [upd_ne _ _ e]
        exact hb.1 j s hj'
    · simp only [opC, CR]
      refine ⟨trivial, .inr List.mem_cons_self, by rw [upd_same], ?_⟩
      obtain ⟨_, ⟨rfl, rfl⟩ | ⟨g, cap, cur, rfl, _⟩⟩ := g2
      · exact ⟨none, 0, rfl⟩
      · exact ⟨_, cap, rfl⟩
  | sl i n => simp only [CR] at hx; exact hx.2.1.elim
  | pt i o => simp only [CR] at hx; exact hx.2.1.elim
  | bx T l => exact ⟨φ, F, St, Opn.refl h _, by simp [opC, CR]⟩
  | un => exact ⟨φ, F, St, Opn.refl h _, by simp [opC, CR]⟩
  | v x => have h0 : fp = [] := by (simp only [CR] at hx; exact hx.2.2)
           subst h0; exact ⟨φ, F, St, Opn.refl h _, CR.up _ _ (fun b hb _ => hb) hx⟩
  | ro n k l => have h0 : fp = [] := by (simp only [CR] at hx; exact hx.1)
                subst h0; exact ⟨φ, F, St, Opn.refl h _, CR.up _ _ (fun b hb _ => hb) hx⟩
  | rp l o => have h0 : fp = [] := by (simp only [CR] at hx; exact hx.1)
              subst h0; exact ⟨φ, F, St, Opn.refl h _, CR.up _ _ (fun b hb _ => hb) hx⟩
  | fn f c => have h0 : fp = [] := by (simp only [CR] at hx; exact hx.1)
              subst h0; exact ⟨φ, F, St, Opn.refl h _, CR.up _ _ (fun b hb _ => hb) hx⟩
/-- Names that follow one another. -/
def Seq (id : Nat) (l : List (Nat × Row)) : Prop := ∀ j p, l[j]? = some p → p.1 = id + j
theorem opC_seq (id : Nat) (c : AC) : Seq id (opC id c).2 := by
  cases c <;> intro j p h <;> simp only [opC] at h <;> rcases j with _ | j <;> simp at h
  subst h; rfl
theorem Seq.app {id : Nat} {l m : List (Nat × Row)} (h : Seq id l) (k : Seq (id + l.length) m) : Seq id (l ++ m) := by
  intro j p hj
  rw [List.getElem?_append] at hj
  split at hj
  · exact h j p hj
  · have := k _ p hj; omega
theorem opL_seq : ∀ (l : List AC) (id : Nat), Seq id (opL id l).2
  | [], id => by intro j p h; simp [opL] at h
  | c :: r, id => (opC_seq id c).app (opL_seq r _)
mutual
theorem opV_seq : ∀ (x : AV) (id : Nat), Seq id (opV id x).2
  | .c x, id => by simp only [opV]; exact opC_seq id x
  | .ag l, id => by simp only [opV]; exact opL_seq l id
  | .tu l, id => by simp only [opV]; exact opVL_seq l id
theorem opVL_seq : ∀ (l : List AV) (id : Nat), Seq id (opVL id l).2
  | [], id => by intro j p h; simp [opVL] at h
  | c :: r, id => (opV_seq c id).app (opVL_seq r _)
end
theorem Seq.range {id : Nat} {l : List (Nat × Row)} (h : Seq id l) {p : Nat × Row} (hp : p ∈ l) : id ≤ p.1 ∧ p.1 < id + l.length := by
  obtain ⟨j, hj, rfl⟩ := List.mem_iff_getElem.1 hp
  have := h j _ (List.getElem?_eq_getElem hj)
  omega
theorem fresh_app {id : Nat} {l m : List (Nat × Row)} (h1 : Seq id l) (h2 : Seq (id + l.length) m) (hid : ∀ p ∈ l ++ m, σ.gn ≤ p.1 ∧ p.1 ∉ σ.us) : (∀ p ∈ l, σ.gn ≤ p.1 ∧ p.1 ∉ σ.us) ∧ ∀ p ∈ m, (growL σ l).gn ≤ p.1 ∧ p.1 ∉ (growL σ l).us := by
  refine ⟨fun p hp => hid p (List.mem_append_left _ hp), fun p hp => ⟨by rw [(growL_f l σ).2.1]; exact (hid p (List.mem_append_right _ hp)).1, fun hm => ?_⟩⟩
  rcases (growL_us l σ p.1).1 hm with ⟨q, hq, e⟩ | hm
  · have := h1.range hq; have := h2.range hp; omega
  · exact (hid p (List.mem_append_right _ hp)).2 hm
theorem opL_to : ∀ {l : List AC} {us : List Value} {fp : List Nat} {φ : Nat → Lc} {F : Nat → List Nat} {St : Nat → Prop} {σ : AS} {id : Nat}, SimF C φ F St σ a w → CRL w St φ0 K0 l us fp → fp.Nodup → (∀ b ∈ fp, Free C φ F St σ b) → (∀ p ∈ (opL id l).2, σ.gn ≤ p.1 ∧ p.1 ∉ σ.us) →
    ∃ φ' F' St', Opn C φ F St σ a w fp (growL σ (opL id l).2) φ' F' St' ∧ CRL w St' φ' (growL σ (opL id l).2).Kn (opL id l).1 us []
  | [], us, fp, φ, F, St, σ, id, h, hx, _, _, _ => by
    simp only [CRL] at hx
    obtain ⟨rfl, rfl⟩ := hx
    exact ⟨φ, F, St, Opn.refl h _, by simp only [opL]; exact CRL.nil⟩
  | c :: r, us, fp, φ, F, St, σ, id, h, hx, hnd, hfr, hid => by
    simp only [CRL] at hx
    obtain ⟨u, us', f, f', rfl, rfl, h1, h2⟩ := hx
    simp only [opL] at hid ⊢
    have hn := List.nodup_append.1 hnd
    obtain ⟨i1, i2⟩ := fresh_app (opC_seq id c) (opL_seq r _) hid
    obtain ⟨φ1, F1, St1, o1, g1⟩ := opC_to h h1 hn.1 (fun b hb => hfr b (List.mem_append_left _ hb)) i1
    obtain ⟨φ2, F2, St2, o2, g2⟩ := opL_to o1.sim (CRL.up _ _ o1.hS h2) hn.2.1 (fun b hb => o1.free b (hfr b (List.mem_append_right _ hb)) fun hm => hn.2.2 b hm b hb rfl) i2
    rw [growL_app]
    exact ⟨φ2, F2, St2, o1.trans o2, CRL.cons (f := []) (f' := []) (o2.cr g1) g2⟩
mutual
theorem opV_to : ∀ {x : AV} {u : Value} {fp : List Nat} {φ : Nat → Lc} {F : Nat → List Nat} {St : Nat → Prop} {σ : AS} {id : Nat}, SimF C φ F St σ a w → VRF w St φ0 K0 x u fp → fp.Nodup → (∀ b ∈ fp, Free C φ F St σ b) → (∀ p ∈ (opV id x).2, σ.gn ≤ p.1 ∧ p.1 ∉ σ.us) →
    ∃ φ' F' St', Opn C φ F St σ a w fp (growL σ (opV id x).2) φ' F' St' ∧ VR w St' φ' (growL σ (opV id x).2).Kn (opV id x).1 u
  | .c x, u, fp, φ, F, St, σ, id, h, hx, hnd, hfr, hid => by
    simp only [VRF] at hx
    simp only [opV] at hid ⊢
    obtain ⟨φ1, F1, St1, o1, g1⟩ := opC_to h hx hnd hfr hid
    exact ⟨φ1, F1, St1, o1, by simp only [VR]; exact g1⟩
  | .ag l, u, fp, φ, F, St, σ, id, h, hx, hnd, hfr, hid => by
    simp only [VRF] at hx
    simp only [opV] at hid ⊢
    obtain ⟨us, e, hx⟩ := hx
    obtain ⟨φ1, F1, St1, o1, g1⟩ := opL_to h hx hnd hfr hid
    exact ⟨φ1, F1, St1, o1, by simp only [VR]; exact ⟨us, e, g1⟩⟩
  | .tu l, u, fp, φ, F, St, σ, id, h, hx, hnd, hfr, hid => by
    simp only [VRF] at hx
    simp only [opV] at hid ⊢
    obtain ⟨us, e, hx⟩ := hx
    obtain ⟨φ1, F1, St1, o1, g1⟩ := opVL_to h hx hnd hfr hid
    exact ⟨φ1, F1, St1, o1, by simp only [VR]; exact ⟨us, e, g1⟩⟩
theorem opVL_to : ∀ {l : List AV} {us : List Value} {fp : List Nat} {φ : Nat → Lc} {F : Nat → List Nat} {St : Nat → Prop} {σ : AS} {id : Nat}, SimF C φ F St σ a w → VRFL w St φ0 K0 l us fp → fp.Nodup → (∀ b ∈ fp, Free C φ F St σ b) → (∀ p ∈ (opVL id l).2, σ.gn ≤ p.1 ∧ p.1 ∉ σ.us) →
    ∃ φ' F' St', Opn C φ F St σ a w fp (growL σ (opVL id l).2) φ' F' St' ∧ VRL w St' φ' (growL σ (opVL id l).2).Kn (opVL id l).1 us
  | [], us, fp, φ, F, St, σ, id, h, hx, _, _, _ => by
    simp only [VRFL] at hx
    obtain ⟨rfl, rfl⟩ := hx
    exact ⟨φ, F, St, Opn.refl h _, by simp [opVL, VRL]⟩
  | c :: r, us, fp, φ, F, St, σ, id, h, hx, hnd, hfr, hid => by
    simp only [VRFL] at hx
    obtain ⟨u, us', f, f', rfl, rfl, h1, h2⟩ := hx
    simp only [opVL] at hid ⊢
    have hn := List.nodup_append.1 hnd
    obtain ⟨i1, i2⟩ := fresh_app (opV_seq c id) (opVL_seq r _) hid
    obtain ⟨φ1, F1, St1, o1, g1⟩ := opV_to h h1 hn.1 (fun b hb => hfr b (List.mem_append_left _ hb)) i1
    obtain ⟨φ2, F2, St2, o2, g2⟩ := opVL_to o1.sim (VRFL.up o1.hS h2) hn.2.1 (fun b hb => o1.free b (hfr b (List.mem_append_right _ hb)) fun hm => hn.2.2 b hm b hb rfl) i2
    rw [growL_app]
    exact ⟨φ2, F2, St2, o1.trans o2, by simp only [VRL]; exact ⟨u, us', rfl, o2.vr g1, g2⟩⟩
end
end
/-- What comes back into the rows that were lent. -/
def backU (hp : Nat → Option Row) : List Nat → List (List AC) → List (Nat × Option Row)
  | i :: D, c :: rows => (i, (hp i).map fun r => { r with cs := c }) :: backU hp D rows
  | _, _ => []
theorem updL_app : ∀ (U V : List (Nat × Option Row)) (hp : Nat → Option Row), updL hp (U ++ V) = updL (updL hp U) V
  | [], _, _ => rfl
  | (i, r) :: U, V, hp => updL_app U V (upd hp i r)
theorem backU_get {hp : Nat → Option Row} : ∀ {D : List Nat} {rows : List (List AC)} {f : Nat → Option Row} {i : Nat}, D.Nodup → rows.length = D.length →
    (∃ d c, idx i D = some d ∧ rows[d]? = some c ∧ updL f (backU hp D rows) i = (hp i).map fun r => { r with cs := c }) ∨ (idx i D = none ∧ updL f (backU hp D rows) i = f i)
  | [], [], f, i, _, _ => .inr ⟨rfl, rfl⟩
  | [], c :: rows, f, i, _, hl => by simp at hl
  | j :: D, [], f, i, _, hl => by simp at hl
  | j :: D, c :: rows, f, i, hD, hl => by
    simp only [backU, updL]
    have hD' := List.nodup_cons.1 hD
    rcases backU_get (hp := hp) (D := D) (rows := rows) (f := upd f j ((hp j).map fun r => { r with cs := c })) (i := i) hD'.2 (by simpa using hl) with ⟨d, c', h1, h2, h3⟩ | ⟨h1, h2⟩
    · have hji : j ≠ i := by rintro rfl; exact hD'.1 (List.mem_of_getElem? (idx_some h1))
      refine .inl ⟨d + 1, c', by simp [idx, hji, h1], by simpa using h2, h3⟩
    · by_cases hji : j = i
      · subst hji
        exact .inl ⟨0, c, by simp [idx], rfl, by rw [h2, upd_same]⟩
      · exact .inr ⟨by simp [idx, hji, h1], by rw [h2, upd_ne _ _ (Ne.symm hji)]⟩
theorem updZ : ∀ (Z : List Nat) (f : Nat → Option Row) (i : Nat), updL f (Z.map fun z => (z, none)) i = if i ∈ Z then none else f i
  | [], f, i => by simp [updL]
  | z :: Z, f, i => by
    simp only [List.map_cons, updL]
    rw [updZ Z]
    by_cases h : i ∈ Z
    · simp [h]
    · rw [if_neg h]
      by_cases e : i = z
      · subst e; simp [upd_same]
      · rw [upd_ne _ _ e]; simp [h, e]
/-- It can be entered. -/
def entB (P : Program) (f : FuncId) : Bool := match P.funcs[f]? with | some fn => !(fn.name == "runtime.NumGoroutine") && !fn.body.isNone | none => false
/-- A function's contract where what comes back is told. -/
def Ctr (P : Program) (f : FuncId) (ins : List AV) (pars : List (List AC)) (res : AV) (rows : List (List AC)) : Prop := entB P f = true ∧ Fun P f ins pars fun r c => r = res ∧ c = rows
theorem run_callFunc {P : Program} {f : FuncId} (h : entB P f = true) (args : Array Value) (w : World) : (callFunc f args).run P w = .ok (.enter f args) w := by
  unfold entB at h
  split at h
  · rename_i fn hf
    simp only [Bool.and_eq_true, Bool.not_eq_true'] at h
    obtain ⟨h1, h2⟩ := h
    have h1' : ¬ fn.name = "runtime.NumGoroutine" := by simpa using h1
    have h2' : ¬ fn.body = none := by intro e; rw [e] at h2; cases h2
    simp [callFunc, hf, h1', h2']
  · cases h
theorem lend_loc {hp hp' : Nat → Option Row} : ∀ {D : List Nat}, (∀ i ∈ D, hp' i = hp i) → lend hp' D = lend hp D
  | [], _ => rfl
  | j :: D, h => by simp only [lend]; rw [h j List.mem_cons_self, lend_loc fun i hi => h i (List.mem_cons_of_mem _ hi)]
theorem backU_loc {hp hp' : Nat → Option Row} : ∀ {D : List Nat} {rows : List (List AC)}, (∀ i ∈ D, hp' i = hp i) → backU hp' D rows = backU hp D rows
  | [], rows, _ => by simp [backU]
  | j :: D, [], _ => by simp [backU]
  | j :: D, c :: rows, h => by simp only [backU]; rw [h j List.mem_cons_self, backU_loc fun i hi => h i (List.mem_cons_of_mem _ hi)]
theorem cvC_loc {hp hp' : Nat → Option Row} {D : List Nat} : ∀ c : AC, (∀ i ∈ snC c, hp' i = hp i) → cvC hp' D c = cvC hp D c := by
  intro c
  induction c using AC.ind with
  | h4 i n => intro h; simp only [cvC]; rw [h i (by simp [snC])]
  | h7 f c ih =>
    intro h
    simp only [cvC, cvL_map]
    congr 1
    refine List.map_congr_left fun x hx => ih x hx fun i hi => h i ?_
    simp only [snC]
    clear h ih
    induction c with
    | nil => cases hx
    | cons y r ihr =>
      simp only [snL, List.mem_append]
      rcases List.mem_cons.1 hx with rfl | hx
      · exact .inl hi
      · exact .inr (ihr hx)
  | _ => intros; simp [cvC]
theorem snL_mem {i : Nat} : ∀ {l : List AC} {c : AC}, c ∈ l → i ∈ snC c → i ∈ snL l
  | [], _, h, _ => by cases h
  | x :: r, c, h, hi => by
    simp only [snL, List.mem_append]
    rcases List.mem_cons.1 h with rfl | h
    · exact .inl hi
    · exact .inr (snL_mem h hi)
theorem cvV_loc {hp hp' : Nat → Option Row} {D : List Nat} (x : AV) (h : ∀ i ∈ snV x, hp' i = hp i) : cvV hp' D x = cvV hp D x := by
  cases x with
  | c x => simp only [cvV]; rw [cvC_loc x h]
  | ag l => simp only [cvV, cvL_map]; congr 1; exact List.map_congr_left fun c hc => cvC_loc c fun i hi => h i (snL_mem hc hi)
  | tu l => rfl
section
variable {P : Program} {ops : Array Oper} {Q : Exit → Act → World → Prop} {C : Ctx} {φ : Nat → Lc} {F : Nat → List Nat} {St : Nat → Prop} {σ : AS} {a : Act} {w : World} {o : Oper} {i : Nat}
theorem crl_vrl {K : Nat → Prop} : ∀ {l : List AC} {us : List Value}, CRL w St φ K l us [] → VRL w St φ K (l.map .c) us
  | [], us, h => by simp only [CRL] at h; rw [h.1]; simp [VRL]
  | c :: r, us, h => by
    simp only [CRL] at h
    obtain ⟨u, us', f, f', rfl, e, h1, h2⟩ := h
    have e' := List.append_eq_nil_iff.1 e.symm
    rw [e'.1] at h1
    rw [e'.2] at h2
    simp only [List.map_cons, VRL]
    exact ⟨u, us', rfl, by simp only [VR]; exact h1, crl_vrl h2⟩
theorem VRL.app {K : Nat → Prop} : ∀ {l m : List AV} {us vs : List Value}, VRL w St φ K l us → VRL w St φ K m vs → VRL w St φ K (l ++ m) (us ++ vs)
  | [], m, us, vs, h, k => by simp only [VRL] at h; subst h; exact k
  | c :: r, m, us, vs, h, k => by
    simp only [VRL] at h
    obtain ⟨u, us', rfl, h1, h2⟩ := h
    simp only [List.cons_append, VRL]
    exact ⟨u, us' ++ vs, rfl, h1, h2.app k⟩
/-- What a call does. -/
def callInf (σ : AS) (R D Z : List Nat) (id : Nat) (res : AV) (rows : List (List AC)) : Inf :=
  ⟨D ++ R ++ Z, backU σ.hp D rows ++ (Z.map fun z => (z, none)) ++ (opV id res).2.map (fun p => (p.1, some p.2)), (opV id res).2.map (·.1), (opV id res).1⟩
def callArgs (σ : AS) (c : Call) (caps : List AC) : List AV := c.args.toList.map σ.ev ++ caps.map .c
def callR (σ : AS) (c : Call) (caps : List AC) : List Nat := (callArgs σ c caps).flatMap snV
theorem snd_call {c : Call} (hop : ops[i]? = some o) (hoc : o.op = .call c) {fv : Operand} (hcal : c.callee = .value fv) {f : FuncId} {caps : List AC} (hfv : σ.ev fv = .c (.fn f caps)) (hg : gw ops σ.tm o = some true)
    {D Z : List Nat} {pars : List (List AC)} {res : AV} {rows : List (List AC)} {id : Nat} (hl : lend σ.hp D = some pars) (hRD : ∀ z ∈ callR σ c caps, z ∉ D) (hZD : ∀ z ∈ Z, z ∉ D)
    (hm : (rofrV res = true ∧ ∀ c ∈ rows, rofrL c = true) ∨ ∀ z ∈ callR σ c caps, z ∈ Z) (hctr : Ctr P f ((callArgs σ c caps).map (cvV σ.hp D)) pars res rows) (hf : ∀ p ∈ (opV id res).2, σ.gn ≤ p.1) :
    Snd P ops Q C i o σ (callInf σ (callR σ c caps) D Z id res rows) := by
  intro τ a w ha hs K hK
  obtain ⟨φ, F, St, hs⟩ := hs
  have hev := ha.ev
  rw [hoc] at hev
  have hargs : ∀ x ∈ c.args.toList, τ.ev x = σ.ev x := fun x hx => hev x (by simp only [Op.operands, Call.operands]; exact Array.mem_append.2 (.inr (by simpa using hx)))
  have hfe : τ.ev fv = .c (.fn f caps) := by rw [hev fv (by simp [Op.operands, Call.operands, hcal]), hfv]
  have eargs : callArgs τ c caps = callArgs σ c caps := by unfold callArgs; rw [map_ev hargs]
  have eD : ∀ i ∈ D, τ.hp i = σ.hp i := fun i hi => ha.hp i (by simp [callInf, hi])
  have eR : ∀ i ∈ callR σ c caps, τ.hp i = σ.hp i := fun i hi => ha.hp i (by simp [callInf, hi])
  have hl' : lend τ.hp D = some pars := by rw [lend_loc eD]; exact hl
  have ecv : (callArgs σ c caps).map (cvV τ.hp D) = (callArgs σ c caps).map (cvV σ.hp D) := List.map_congr_left fun x hx => cvV_loc x fun i hi => eR i (List.mem_flatMap.2 ⟨x, hx, hi⟩)
  have hfn := hs.ev fv
  rw [hfe] at hfn
  simp only [VR, CR] at hfn
  obtain ⟨_, us, hfu, hcaps⟩ := hfn
  have hin : VRL w St φ τ.Kn (callArgs σ c caps) (c.args.toList.map a.eval ++ us) := by
    rw [← eargs]; exact (evs hs _).app (crl_vrl hcaps)
  have hent := hs.ent hl' (R := callR σ c caps) hRD hin fun x hx i hi => List.mem_flatMap.2 ⟨x, hx, hi⟩
  rw [ecv] at hent
  have hcall := hctr.2 w _ _ _ _ hent
  unfold wpOp
  rw [hop]
  have hw := gw_to hs (b := true) (by rw [ha.gw]; exact hg)
  simp only [hw, if_true]
  refine .inl ?_
  unfold Oper.wp
  have hrun : (execOp a.eval o).run P w = .ok (.enter f (c.args.toList.map a.eval ++ us).toArray) w := by
    have e : (#[] ++ c.args.map a.eval ++ us.toArray : Array Value) = (c.args.toList.map a.eval ++ us).toArray := by
      apply Array.ext'; simp
    have h1 : (resolve a.eval c o.type).run P w = .ok { target := .fn (.func f) us.toArray, args := #[] ++ c.args.map a.eval } w := by
      unfold resolve; rw [hcal]; simp only [hfu, Deferred.ofValue, Sem.run_pure]
    have h2 : execOp a.eval o = (do let d ← resolve a.eval c o.type; invoke d.target d.args) := by unfold execOp; rw [hoc]
    rw [h2, Sem.run_bind, h1]
    simp only [Result.andThen_ok, invoke]
    rw [e]
    exact run_callFunc hctr.1 _ _
  rw [hrun, Oper.upon_enter]
  refine hcall.mono ?_
  rintro e w' ⟨res', rows', u, St', F', G, ⟨rfl, rfl⟩, rfl, hx⟩
  have hrl : rows'.length = D.length := by rw [hx.len, lend_len hl']
  have hDn := lend_nodup hl'
  have hget : ∀ i, updL τ.hp (backU τ.hp D rows' ++ Z.map fun z => (z, none)) i = if i ∈ Z then none else updL τ.hp (backU τ.hp D rows') i := fun i => by rw [updL_app, updZ]
  obtain ⟨St3, b1, b2, b3⟩ := hs.back hl' hx (hp3 := updL τ.hp (backU τ.hp D rows' ++ Z.map fun z => (z, none))) (fun i s hi => by
      rw [hget] at hi
      split at hi
      · cases hi
      · rcases backU_get (hp := τ.hp) (f := τ.hp) (i := i) hDn hrl with ⟨d, cc, h1, h2, h3⟩ | ⟨h1, h2⟩
        · rw [h3] at hi
          simp only [Option.map_eq_some_iff] at hi
          obtain ⟨r, h4, h5⟩ := hi
          exact .inl ⟨d, r, cc, h1, h4, h2, h5.symm⟩
        · rw [h2] at hi; exact .inr ⟨h1, hi⟩) (hm.imp (fun q => q) fun hz i hi => by rw [hget, if_pos (hz i hi)])
  obtain ⟨φ4, F4, St4, o1, o2⟩ := opV_to b1 b2 hx.nodG b3 (id := id) (fun p hp => ⟨by show τ.gn ≤ _; rw [ha.gn]; exact hf p hp, by
    show p.1 ∉ τ.us
    exact ha.us p.1 (by simp only [callInf, List.mem_map]; exact ⟨p, hp, rfl⟩)⟩)
  refine hK _ _ (Sim.aeq ⟨φ4, F4, St4, o1.sim.put o.dst o2⟩ ?_)
  obtain ⟨g1, g2, g3, g4⟩ := growL_f (opV id res').2 { τ with hp := updL τ.hp (backU τ.hp D rows' ++ Z.map fun z => (z, none)) }
  have eb : backU τ.hp D rows' = backU σ.hp D rows' := backU_loc eD
  refine ⟨?_, ?_, ?_, fun j => ?_, ?_⟩
  · rw [app_tm, put_tm, g1, g3]; rfl
  · rw [app_hp, (put_fields _ _ _).1, g4]
    simp only [callInf]
    rw [← updL_app, eb]
  · rw [app_gn, (put_fields _ _ _).2.1, g2]
  · rw [app_us, (put_fields _ _ _).2.2.1, growL_us]
    simp only [callInf, List.mem_append, List.mem_map]
  · rw [app_L, (put_fields _ _ _).2.2.2, g3]
theorem walk_call {H : List (Nat × Oper × Inf)} {r : List Nat} {dr : Bool} {c : Call} (id : Nat) (D Z : List Nat) (hop : ops[i]? = some o) (hg : gw ops σ.tm o = some true) (hoc : o.op = .call c) {fv : Operand} (hcal : c.callee = .value fv) {f : FuncId} {caps : List AC} (hfv : σ.ev fv = .c (.fn f caps))
    {args : List AV} (hargs : callArgs σ c caps = args) {pars : List (List AC)} {res : AV} {rows : List (List AC)} (hl : lend σ.hp D = some pars) (hctr : Ctr P f (args.map (cvV σ.hp D)) pars res rows)
    (hRD : ((args.flatMap snV).all fun z => !D.contains z) = true) (hZD : (Z.all fun z => !D.contains z) = true)
    (hm : (rofrV res = true ∧ ∀ c ∈ rows, rofrL c = true) ∨ ((args.flatMap snV).all fun z => Z.contains z) = true) (hf : ((opV id res).2.all fun p => decide (σ.gn ≤ p.1) && !σ.us.contains p.1) = true)
    (hc : dr = true → (H.all fun h => wt .any ops ops.size i h.1 || inp ops o (callInf σ (args.flatMap snV) D Z id res rows) h.2.1 h.2.2) = true)
    (h : Walk P ops Q C dr ((i, o, callInf σ (args.flatMap snV) D Z id res rows) :: H) r (σ.app (callInf σ (args.flatMap snV) D Z id res rows) o)) : Walk P ops Q C dr H (i :: r) σ := by
  subst hargs
  have nc : ∀ {l m : List Nat}, (l.all fun z => !m.contains z) = true → ∀ z ∈ l, z ∉ m := fun h z hz hm => by have := List.all_eq_true.1 h z hz; simp at this; exact this hm
  have hf' : ∀ p ∈ (opV id res).2, σ.gn ≤ p.1 ∧ p.1 ∉ σ.us := fun p hp => by have := List.all_eq_true.1 hf p hp; simpa using this
  refine ⟨o, _, hop, snd_call hop hoc hcal hfv hg hl (nc hRD) (nc hZD) (hm.imp (fun q => q) fun h z hz => by have := List.all_eq_true.1 h z hz; simpa using this) hctr (fun p hp => (hf' p hp).1), fun n hn => ?_, hc, h⟩
  simp only [callInf, List.mem_map] at hn
  obtain ⟨p, hp, rfl⟩ := hn
  exact (hf' p hp).2
end
end Go.Proofs.Ytfnnbjkjfoiboaa
