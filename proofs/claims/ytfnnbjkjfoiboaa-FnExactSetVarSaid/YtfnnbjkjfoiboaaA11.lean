/- The abstract machine, eleven: what closes; contracts of functions. -/
import Derived.Test.YtfnnbjkjfoiboaaA10
namespace Go.Proofs.Ytfnnbjkjfoiboaa
open Go.RowKit

mutual
/-- It names no row. -/
def clo : AC → Bool
  | .v _ => true
  | .ro _ _ l => cloL l
  | .ow _ _ _ l => cloL l
  | .sl .. => false
  | .pt .. => false
  | .rp l _ => cloL l
  | .fn _ c => cloL c
  | .bx _ l => cloL l
  | .un => true
def cloL : List AC → Bool
  | [] => true
  | c :: r => clo c && cloL r
end
mutual
/-- It reads nothing that is not its own. -/
def rofr : AC → Bool
  | .v _ => true
  | .ro _ _ _ => false
  | .ow _ _ _ l => rofrL l
  | .sl .. => true
  | .pt .. => true
  | .rp _ _ => false
  | .fn _ c => rofrL c
  | .bx _ l => rofrL l
  | .un => true
def rofrL : List AC → Bool
  | [] => true
  | c :: r => rofr c && rofrL r
end
mutual
/-- A held slice, as one that is read. -/
def toRo : AC → AC
  | .v x => .v x
  | .ro n k l => .ro n k l
  | .ow _ n k l => .ro n k (toRoL l)
  | _ => .un
def toRoL : List AC → List AC
  | [] => []
  | c :: r => toRo c :: toRoL r
end
theorem cloL_iff : ∀ l, cloL l = true ↔ ∀ c ∈ l, clo c = true
  | [] => by simp [cloL]
  | c :: r => by simp [cloL, cloL_iff r]
theorem rofrL_iff : ∀ l, rofrL l = true ↔ ∀ c ∈ l, rofr c = true
  | [] => by simp [rofrL]
  | c :: r => by simp [rofrL, rofrL_iff r]
theorem toRoL_eq : ∀ l, toRoL l = l.map toRo
  | [] => rfl
  | c :: r => by rw [toRoL, toRoL_eq r]; rfl
theorem toRoL_len (l : List AC) : (toRoL l).length = l.length := by rw [toRoL_eq]; simp
section
variable {w w' : World} {St St' : Nat → Prop} {φ φ' : Nat → Lc} {K K' : Nat → Prop}
theorem CR.clo_ : ∀ (c : AC) (u : Value) (fp : List Nat), clo c = true → CR w St φ K c u fp → CR w St φ' K' c u fp := by
  intro c
  induction c using AC.ind with
  | h1 x => intro u fp _ h; simp only [CR] at h ⊢; exact h
  | h2 n k l ih =>
    intro u fp hc h
    simp only [clo, cloL_iff] at hc
    simp only [CR] at h ⊢
    obtain ⟨h0, A, c, h1, h2, h3, h4⟩ := h
    refine ⟨h0, A, c, h1, h2, h3, fun hn => ?_⟩
    obtain ⟨b, o, us, e1, e2, e3, e4, e5⟩ := h4 hn
    exact ⟨b, o, us, e1, e2, e3, e4, e5.imp fun d hd u f _ hc' => ih d hd u f (hc d hd) hc'⟩
  | h3 T n k l ih =>
    intro u fp hc h
    simp only [clo, cloL_iff] at hc
    simp only [CR] at h ⊢
    obtain ⟨us, fs, h1, h2, h3⟩ := h
    exact ⟨us, fs, h1.imp fun d hd u f _ hc' => ih d hd u f (hc d hd) hc', h2, h3⟩
  | h4 i n => intro u fp hc; simp [clo] at hc
  | h5 i o => intro u fp hc; simp [clo] at hc
  | h6 l o ih =>
    intro u fp hc h
    simp only [clo, cloL_iff] at hc
    simp only [CR] at h ⊢
    obtain ⟨h0, b, p, us, e1, e2, e3, e4, e5⟩ := h
    exact ⟨h0, b, p, us, e1, e2, e3, e4, e5.imp fun d hd u f _ hc' => ih d hd u f (hc d hd) hc'⟩
  | h7 f c ih =>
    intro u fp hc h
    simp only [clo, cloL_iff] at hc
    simp only [CR] at h ⊢
    obtain ⟨h0, us, e1, e2⟩ := h
    exact ⟨h0, us, e1, e2.imp fun d hd u f _ hc' => ih d hd u f (hc d hd) hc'⟩
  | h9 T l ih =>
    intro u fp hc h
    simp only [clo, cloL_iff] at hc
    simp only [CR] at h ⊢
    obtain ⟨b, us, fs, e1, e2, e3, e4⟩ := h
    exact ⟨b, us, fs, e1, e2, e3.imp fun d hd u f _ hc' => ih d hd u f (hc d hd) hc', e4⟩
  | h8 => intro u fp _ h; simp only [CR] at h ⊢; exact h
theorem CRL.clo_ {l : List AC} {us : List Value} {fp : List Nat} (hc : cloL l = true) (h : CRL w St φ K l us fp) : CRL w St φ' K' l us fp :=
  h.imp fun d hd u f _ h' => CR.clo_ d u f ((cloL_iff l).1 hc d hd) h'
theorem CR.rofr_ : ∀ (c : AC) (u : Value) (fp : List Nat), rofr c = true → CR w St φ K c u fp → CR w St' φ K c u fp := by
  intro c
  induction c using AC.ind with
  | h1 x => intro u fp _ h; simp only [CR] at h ⊢; exact h
  | h2 n k l ih => intro u fp hc; simp [rofr] at hc
  | h3 T n k l ih =>
    intro u fp hc h
    simp only [rofr, rofrL_iff] at hc
    simp only [CR] at h ⊢
    obtain ⟨us, fs, h1, h2, h3⟩ := h
    exact ⟨us, fs, h1.imp fun d hd u f _ hc' => ih d hd u f (hc d hd) hc', h2, h3⟩
  | h4 i n => intro u fp _ h; simp only [CR] at h ⊢; exact h
  | h5 i o => intro u fp _ h; simp only [CR] at h ⊢; exact h
  | h6 l o ih => intro u fp hc; simp [rofr] at hc
  | h7 f c ih =>
    intro u fp hc h
    simp only [rofr, rofrL_iff] at hc
    simp only [CR] at h ⊢
    obtain ⟨h0, us, e1, e2⟩ := h
    exact ⟨h0, us, e1, e2.imp fun d hd u f _ hc' => ih d hd u f (hc d hd) hc'⟩
  | h9 T l ih =>
    intro u fp hc h
    simp only [rofr, rofrL_iff] at hc
    simp only [CR] at h ⊢
    obtain ⟨b, us, fs, e1, e2, e3, e4⟩ := h
    exact ⟨b, us, fs, e1, e2, e3.imp fun d hd u f _ hc' => ih d hd u f (hc d hd) hc', e4⟩
  | h8 => intro u fp _ h; simp only [CR] at h ⊢; exact h
theorem CRL.rofr_ {l : List AC} {us : List Value} {fp : List Nat} (hc : rofrL l = true) (h : CRL w St φ K l us fp) : CRL w St' φ K l us fp :=
  h.imp fun d hd u f _ h' => CR.rofr_ d u f ((rofrL_iff l).1 hc d hd) h'
theorem CRL.toRo_of : ∀ {l : List AC} {us : List Value} {fp : List Nat}, (∀ c ∈ l, ∀ u f, (∀ b ∈ f, b ∈ fp) → CR w St φ K c u f → CR w St' φ' K' (toRo c) u []) → CRL w St φ K l us fp → CRL w St' φ' K' (toRoL l) us []
  | [], us, fp, _, h => by simp only [CRL] at h; rw [h.1]; simp only [toRoL]; exact CRL.nil
  | c :: r, us, fp, hh, h => by
    simp only [CRL] at h
    obtain ⟨u, us', f1, f2, rfl, rfl, h1, h2⟩ := h
    simp only [toRoL]
    exact CRL.cons (f := []) (f' := []) (hh c List.mem_cons_self u f1 (fun b hb => List.mem_append_left _ hb) h1) (CRL.toRo_of (fun d hd u f hf => hh d (List.mem_cons_of_mem _ hd) u f fun b hb => List.mem_append_right _ (hf b hb)) h2)
/-- A closed cell, as one that is read: what it held stands. -/
theorem CR.toRo_ (hS : ∀ b, St b → St' b) : ∀ (c : AC) (u : Value) (fp : List Nat), clo c = true → (∀ b ∈ fp, St' b) → CR w St φ K c u fp → CR w St' φ' K' (toRo c) u [] := by
  intro c
  induction c using AC.ind with
  | h1 x => intro u fp _ _ h; simp only [toRo, CR] at h ⊢; exact ⟨h.1, h.2.1, trivial⟩
  | h2 n k l ih =>
    intro u fp hc hf h
    have h' := CR.clo_ (φ' := φ') (K' := K') _ _ _ hc h
    have h0 : fp = [] := by simp only [CR] at h; exact h.1
    subst h0
    have : ∀ (c : AC) (u : Value) (fp : List Nat), (∀ b ∈ fp, w.heap[b]? = w.heap[b]?) → CR w St φ' K' c u fp → CR w St' φ' K' c u fp := CR.mono (fun b hb _ => ⟨hS b hb, rfl⟩) (Nat.le_refl _) (fun i hi => ⟨hi, rfl⟩)
    simp only [toRo]
    exact this _ _ _ (fun _ _ => rfl) h'
  | h3 T n k l ih =>
    intro u fp hc hf h
    simp only [clo, cloL_iff] at hc
    simp only [toRo, CR] at h ⊢
    obtain ⟨us, fs, h1, h2, rfl⟩ := h
    have hro : CRL w St' φ' K' (toRoL l) us [] := h1.toRo_of fun d hd u f hf' hc' => ih d hd u f (hc d hd) (fun b hb => hf b (List.mem_append_right _ (hf' b hb))) hc'
    have hlen : (toRoL l).length = n * k := by rw [toRoL_len, ← h1.len, h2.1]
    rcases id h2.2 with ⟨rfl, rfl⟩ | ⟨g, cap, cur, rfl, _, hh, hn, hcap, hs, ht⟩
    · exact ⟨trivial, none, 0, rfl, ⟨Nat.le_refl _, by unfold maxLen; omega, fun _ => rfl⟩, hlen, fun h0 => absurd h0 (by omega)⟩
    · refine ⟨trivial, _, cap, rfl, ⟨hn, hcap, fun e => by cases e⟩, hlen, fun _ => ⟨g, 0, us, rfl, hf g (by simp [obl, Value.ownBlock]), (Array.getElem?_eq_some_iff.1 hh).1, fun i x hx => ?_, hro⟩⟩
      have := h2.cells (g := g) rfl i x hx
      rwa [Addr.add_lit] at this
  | h4 i n => intro u fp hc; simp [clo] at hc
  | h5 i o => intro u fp hc; simp [clo] at hc
  | h6 l o ih => intro u fp _ _ _; simp [toRo, CR]
  | h7 f c ih => intro u fp _ _ _; simp [toRo, CR]
  | h9 T l ih => intro u fp _ _ _; simp [toRo, CR]
  | h8 => intro u fp _ _ _; simp [toRo, CR]
theorem CRL.toRo_ (hS : ∀ b, St b → St' b) {l : List AC} {us : List Value} {fp : List Nat} (hc : cloL l = true) (hf : ∀ b ∈ fp, St' b) (h : CRL w St φ K l us fp) : CRL w St' φ' K' (toRoL l) us [] :=
  h.toRo_of fun d hd u f hf' h' => CR.toRo_ hS d u f ((cloL_iff l).1 hc d hd) (fun b hb => hf b (hf' b hb)) h'
end
mutual
/-- A value, with the blocks that it holds. -/
def VRF (w : World) (St : Nat → Prop) (φ : Nat → Lc) (K : Nat → Prop) : AV → Value → List Nat → Prop
  | .c x, u, fp => CR w St φ K x u fp
  | .ag l, u, fp => ∃ us, u = .agg us.toArray ∧ CRL w St φ K l us fp
  | .tu l, u, fp => ∃ us, u = .tuple us.toArray ∧ VRFL w St φ K l us fp
def VRFL (w : World) (St : Nat → Prop) (φ : Nat → Lc) (K : Nat → Prop) : List AV → List Value → List Nat → Prop
  | [], us, fp => us = [] ∧ fp = []
  | c :: r, us, fp => ∃ u us' f f', us = u :: us' ∧ fp = f ++ f' ∧ VRF w St φ K c u f ∧ VRFL w St φ K r us' f'
end
def φ0 : Nat → Lc := fun _ => .box 0 0
def K0 : Nat → Prop := fun _ => False
/-- The blocks and cells that are lent. -/
def lentM (F : Nat → List Nat) (N : Nat) : Nat → Prop := fun b => ∃ i, i < N ∧ b ∈ F i
def lentR (φ : Nat → Lc) (pars : List (List AC)) : Nat → Nat → Prop := fun b o => ∃ i lo cs, pars[i]? = some cs ∧ φ i = .box b lo ∧ lo ≤ o ∧ o < lo + cs.length
/-- What a call finds. -/
structure Ent (w : World) (St : Nat → Prop) (φ : Nat → Lc) (F : Nat → List Nat) (ins : List AV) (us : List Value) (pars : List (List AC)) : Prop where
  args : VRL w St φ (fun i => i < pars.length) ins us
  row : ∀ i cs, pars[i]? = some cs → ∃ b lo vs, φ i = .box b lo ∧ CRL w St φ (fun i => i < pars.length) cs vs (F i) ∧ BoxAt w b lo vs
  nod : ∀ i, i < pars.length → (F i).Nodup
  dis : ∀ i j, i < pars.length → j < pars.length → i ≠ j → ∀ b ∈ F i, b ∉ F j
  bxF : ∀ i j b lo, i < pars.length → j < pars.length → φ i = .box b lo → b ∉ F j
  bxd : ∀ i j b lo lo' (ci cj : List AC), pars[i]? = some ci → pars[j]? = some cj → i ≠ j → φ i = .box b lo → φ j = .box b lo' → lo + ci.length ≤ lo' ∨ lo' + cj.length ≤ lo
  stF : ∀ i b, i < pars.length → b ∈ F i → ¬ St b
  stB : ∀ i b lo, i < pars.length → φ i = .box b lo → ¬ St b
/-- What a call leaves. -/
structure Ext (w w' : World) (St : Nat → Prop) (φ : Nat → Lc) (F : Nat → List Nat) (pars : List (List AC)) (res : AV) (u : Value) (rows : List (List AC)) (St' : Nat → Prop) (F' : Nat → List Nat) (G : List Nat) : Prop where
  frm : Fc (lentM F pars.length) (lentR φ pars) w w'
  res : VRF w' St' φ0 K0 res u G
  nodG : G.Nodup
  len : rows.length = pars.length
  row : ∀ i cs, rows[i]? = some cs → ∃ b lo vs, φ i = .box b lo ∧ CRL w' St' φ0 K0 cs vs (F' i) ∧ BoxAt w' b lo vs ∧ ∃ cs0, pars[i]? = some cs0 ∧ cs.length = cs0.length
  nod : ∀ i, i < pars.length → (F' i).Nodup
  disG : ∀ i, i < pars.length → ∀ b ∈ F' i, b ∉ G
  dis : ∀ i j, i < pars.length → j < pars.length → i ≠ j → ∀ b ∈ F' i, b ∉ F' j
  bxF : ∀ i b lo, i < pars.length → φ i = .box b lo → b ∉ G ∧ ∀ j, j < pars.length → b ∉ F' j
  own : ∀ b, (b ∈ G ∨ ∃ i, i < pars.length ∧ b ∈ F' i) → (lentM F pars.length b ∨ w.heap.size ≤ b)
  sta : ∀ b, St' b → (b < w.heap.size → St b ∨ lentM F pars.length b) ∧ b ∉ G ∧ ∀ i, i < pars.length → b ∉ F' i ∧ ∀ lo, φ i ≠ .box b lo
/-- A function's contract: values and lent rows in, what comes of them out. -/
def Fun (P : Program) (f : FuncId) (ins : List AV) (pars : List (List AC)) (Post : AV → List (List AC) → Prop) : Prop :=
  ∀ (w : World) (St : Nat → Prop) (φ : Nat → Lc) (F : Nat → List Nat) (us : List Value), Ent w St φ F ins us pars →
    Calls P f us.toArray w fun e w' => ∃ res rows u St' F' G, Post res rows ∧ e = .returned u ∧ Ext w w' St φ F pars res u rows St' F' G
theorem Fun.mono {P : Program} {f : FuncId} {ins : List AV} {pars : List (List AC)} {Post Post' : AV → List (List AC) → Prop} (h : Fun P f ins pars Post) (hp : ∀ r c, Post r c → Post' r c) : Fun P f ins pars Post' :=
  fun w St φ F us he => (h w St φ F us he).mono fun _ _ ⟨res, rows, u, St', F', G, h1, h2⟩ => ⟨res, rows, u, St', F', G, hp _ _ h1, h2⟩
end Go.Proofs.Ytfnnbjkjfoiboaa
