/- An abstract machine, one: cells, values, rows, and what they say of a world. -/
import Derived.Test.YtfnnbjkjfoiboaaSl
namespace Go.Proofs.Ytfnnbjkjfoiboaa
open Go.RowKit

/-- A cell: a scalar; a slice that is read alone (n elements of k cells); a slice that is held (closed); an open slice of row i; a pointer into row i; a pointer into what is read; a function; a pointer to a variable that is held; whatever. -/
inductive AC where
  | v (x : Value)
  | ro (n k : Nat) (l : List AC)
  | ow (T : TypeId) (n k : Nat) (l : List AC)
  | sl (i n : Nat)
  | pt (i o : Nat)
  | rp (l : List AC) (o : Nat)
  | fn (f : FuncId) (c : List AC)
  | bx (T : TypeId) (l : List AC)
  | un
/-- A value: one cell, a struct, a tuple. -/
inductive AV where
  | c (x : AC)
  | ag (l : List AC)
  | tu (l : List AV)
/-- Where a row lies: in a block from a cell on, or behind a slice. -/
inductive Lc where
  | box (b lo : Nat)
  | slc (u : Value)
structure Row where
  T : TypeId
  k : Nat
  n : Nat
  box : Bool
  cs : List AC

theorem AC.ind {p : AC → Prop} (h1 : ∀ x, p (.v x)) (h2 : ∀ n k l, (∀ e ∈ l, p e) → p (.ro n k l)) (h3 : ∀ T n k l, (∀ e ∈ l, p e) → p (.ow T n k l)) (h4 : ∀ i n, p (.sl i n)) (h5 : ∀ i o, p (.pt i o))
    (h6 : ∀ l o, (∀ e ∈ l, p e) → p (.rp l o)) (h7 : ∀ f c, (∀ e ∈ c, p e) → p (.fn f c)) (h9 : ∀ T l, (∀ e ∈ l, p e) → p (.bx T l)) (h8 : p .un) : ∀ e, p e :=
  AC.rec (motive_1 := p) (motive_2 := fun l => ∀ e ∈ l, p e) h1 (fun n k l h => h2 n k l h) (fun T n k l h => h3 T n k l h) h4 h5 (fun l o h => h6 l o h) (fun f c h => h7 f c h) (fun T l h => h9 T l h) h8 (fun _ h => absurd h List.not_mem_nil) (fun _ _ hh ht e he => by
    rcases List.mem_cons.1 he with rfl | h
    · exact hh
    · exact ht e h)

def scal : Value → Bool
  | .bool _ | .int .. | .string _ | .slice none 0 0 | .pointer none | .nilFunc | .nilIface => true
  | _ => false
theorem scal_one {x : Value} (h : scal x = true) : x.oneCell' = true := by
  cases x <;> first | rfl | simp [scal] at h
def obl (u : Value) : List Nat := match u.ownBlock with | some b => [b] | none => []

mutual
/-- What a cell says of a value; fp: the blocks that it holds. -/
def CR (w : World) (St : Nat → Prop) (φ : Nat → Lc) (K : Nat → Prop) : AC → Value → List Nat → Prop
  | .v x, u, fp => u = x ∧ scal x = true ∧ fp = []
  | .ro n k l, u, fp => fp = [] ∧ ∃ A c, u = .slice A n c ∧ (n ≤ c ∧ c ≤ maxLen ∧ (A = none → c = 0)) ∧ l.length = n * k ∧
      (0 < n → ∃ b o us, A = some ⟨b, o, none⟩ ∧ St b ∧ b < w.heap.size ∧ (∀ i x, us[i]? = some x → w.cell? ⟨b, o + i, none⟩ = some x) ∧ CRL w St φ K l us [])
  | .ow T n k l, u, fp => ∃ us fs, CRL w St φ K l us fs ∧ w.ownsRow 0 T k u n us ∧ fp = obl u ++ fs
  | .sl i n, u, fp => fp = [] ∧ K i ∧ φ i = .slc u ∧ ∃ A c, u = .slice A n c
  | .pt i o, u, fp => fp = [] ∧ K i ∧ ((∃ b lo, φ i = .box b lo ∧ u = .pointer (some ⟨b, lo + o, none⟩)) ∨ (∃ b n c, φ i = .slc (.slice (some ⟨b, 0, none⟩) n c) ∧ u = .pointer (some ⟨b, o, none⟩)))
  | .rp l o, u, fp => fp = [] ∧ ∃ b p us, u = .pointer (some ⟨b, p + o, none⟩) ∧ St b ∧ b < w.heap.size ∧ (∀ i x, us[i]? = some x → w.cell? ⟨b, p + i, none⟩ = some x) ∧ CRL w St φ K l us []
  | .fn f c, u, fp => fp = [] ∧ ∃ us, u = .func (.func f) #[] us.toArray ∧ CRL w St φ K c us []
  | .bx T l, u, fp => ∃ b us fs, u = .pointer (some ⟨b, 0, none⟩) ∧ w.heap[b]? = some (.cells us.toArray T (0, 0)) ∧ CRL w St φ K l us fs ∧ fp = b :: fs
  | .un, _, fp => fp = []
def CRL (w : World) (St : Nat → Prop) (φ : Nat → Lc) (K : Nat → Prop) : List AC → List Value → List Nat → Prop
  | [], us, fp => us = [] ∧ fp = []
  | c :: r, us, fp => ∃ u us' f f', us = u :: us' ∧ fp = f ++ f' ∧ CR w St φ K c u f ∧ CRL w St φ K r us' f'
end

section
variable {w w' : World} {St St' : Nat → Prop} {φ φ' : Nat → Lc} {K K' : Nat → Prop}
theorem CRL.nil : CRL w St φ K [] [] [] := by simp [CRL]
theorem CRL.cons {c : AC} {u : Value} {f f' : List Nat} {r : List AC} {us : List Value} (h : CR w St φ K c u f) (h' : CRL w St φ K r us f') : CRL w St φ K (c :: r) (u :: us) (f ++ f') := by
  simp only [CRL]; exact ⟨u, us, f, f', rfl, rfl, h, h'⟩
theorem CRL.len : ∀ {l : List AC} {us : List Value} {fp : List Nat}, CRL w St φ K l us fp → us.length = l.length
  | [], us, fp, h => by simp only [CRL] at h; simp [h.1]
  | c :: r, us, fp, h => by
    simp only [CRL] at h
    obtain ⟨u, us', f, f', rfl, _, _, h2⟩ := h
    simp [h2.len]
theorem CRL.app : ∀ {l r : List AC} {us vs : List Value} {f f' : List Nat}, CRL w St φ K l us f → CRL w St φ K r vs f' → CRL w St φ K (l ++ r) (us ++ vs) (f ++ f')
  | [], r, us, vs, f, f', h, h' => by
    simp only [CRL] at h
    obtain ⟨rfl, rfl⟩ := h
    exact h'
  | c :: l, r, us, vs, f, f', h, h' => by
    simp only [CRL] at h
    obtain ⟨u, us', f1, f2, rfl, rfl, h1, h2⟩ := h
    rw [List.append_assoc]
    exact CRL.cons h1 (h2.app h')
theorem CRL.split : ∀ {l r : List AC} {us : List Value} {fp : List Nat}, CRL w St φ K (l ++ r) us fp → ∃ us1 us2 f1 f2, us = us1 ++ us2 ∧ fp = f1 ++ f2 ∧ CRL w St φ K l us1 f1 ∧ CRL w St φ K r us2 f2
  | [], r, us, fp, h => ⟨[], us, [], fp, rfl, rfl, CRL.nil, h⟩
  | c :: l, r, us, fp, h => by
    simp only [List.cons_append, CRL] at h
    obtain ⟨u, us', f1, f2, rfl, rfl, h1, h2⟩ := h
    obtain ⟨us1, us2, g1, g2, rfl, rfl, h3, h4⟩ := h2.split
    exact ⟨u :: us1, us2, f1 ++ g1, g2, rfl, by simp, CRL.cons h1 h3, h4⟩
theorem CRL.at_ : ∀ {l : List AC} {us : List Value} {fp : List Nat} {i : Nat} {c : AC}, CRL w St φ K l us fp → l[i]? = some c → ∃ u f, us[i]? = some u ∧ CR w St φ K c u f ∧ ∀ b ∈ f, b ∈ fp
  | [], us, fp, i, c, _, hi => by simp at hi
  | d :: l, us, fp, 0, c, h, hi => by
    simp only [CRL] at h
    obtain ⟨u, us', f1, f2, rfl, rfl, h1, h2⟩ := h
    obtain rfl : d = c := by simpa using hi
    exact ⟨u, f1, rfl, h1, fun b hb => List.mem_append_left _ hb⟩
  | d :: l, us, fp, i + 1, c, h, hi => by
    simp only [CRL] at h
    obtain ⟨u, us', f1, f2, rfl, rfl, h1, h2⟩ := h
    obtain ⟨u', f', h3, h4, h5⟩ := h2.at_ (i := i) (c := c) (by simpa using hi)
    exact ⟨u', f', by simpa using h3, h4, fun b hb => List.mem_append_right _ (h5 b hb)⟩
theorem CRL.imp {w' : World} {St' : Nat → Prop} {φ' : Nat → Lc} {K' : Nat → Prop} : ∀ {l : List AC} {us : List Value} {fp : List Nat}, (∀ c ∈ l, ∀ u f, (∀ b ∈ f, b ∈ fp) → CR w St φ K c u f → CR w' St' φ' K' c u f) → CRL w St φ K l us fp → CRL w' St' φ' K' l us fp
  | [], us, fp, _, h => by simp only [CRL] at h ⊢; exact h
  | c :: l, us, fp, hh, h => by
    simp only [CRL] at h
    obtain ⟨u, us', f1, f2, rfl, rfl, h1, h2⟩ := h
    exact CRL.cons (hh c List.mem_cons_self u f1 (fun b hb => List.mem_append_left _ hb) h1) (CRL.imp (fun d hd u f hf => hh d (List.mem_cons_of_mem _ hd) u f fun b hb => List.mem_append_right _ (hf b hb)) h2)
theorem owns_block {w w' : World} {T : TypeId} {k n : Nat} {u : Value} {us : List Value} (h : w.ownsRow 0 T k u n us) (hb : ∀ b ∈ obl u, w'.heap[b]? = w.heap[b]?) : w'.ownsRow 0 T k u n us := by
  obtain ⟨hl, h | ⟨b, cap, cur, rfl, hg, hh, hr⟩⟩ := h
  · exact ⟨hl, .inl h⟩
  · exact ⟨hl, .inr ⟨b, cap, cur, rfl, hg, (hb b (by simp [obl, Value.ownBlock])).trans hh, hr⟩⟩
theorem cells_block {w w' : World} {b o : Nat} {us : List Value} (hb : w'.heap[b]? = w.heap[b]?) (h : ∀ i x, us[i]? = some x → w.cell? ⟨b, o + i, none⟩ = some x) : ∀ i x, us[i]? = some x → w'.cell? ⟨b, o + i, none⟩ = some x :=
  fun i x hx => (World.cell?_of_block (a := ⟨b, o + i, none⟩) hb).trans (h i x hx)
/-- What a cell says stands while the blocks stand that it leans on. -/
theorem CR.mono (hS : ∀ b, St b → b < w.heap.size → St' b ∧ w'.heap[b]? = w.heap[b]?) (hz : w.heap.size ≤ w'.heap.size) (hK : ∀ i, K i → K' i ∧ φ' i = φ i) :
    ∀ c u fp, (∀ b ∈ fp, w'.heap[b]? = w.heap[b]?) → CR w St φ K c u fp → CR w' St' φ' K' c u fp := by
  intro c
  induction c using AC.ind with
  | h1 x => intro u fp _ h; simp only [CR] at h ⊢; exact h
  | h2 n k l ih =>
    intro u fp _ h
    simp only [CR] at h ⊢
    obtain ⟨h0, A, c, h1, h2, h3, h4⟩ := h
    refine ⟨h0, A, c, h1, h2, h3, fun hn => ?_⟩
    obtain ⟨b, o, us, e1, e2, e3, e4, e5⟩ := h4 hn
    obtain ⟨s1, s2⟩ := hS b e2 e3
    exact ⟨b, o, us, e1, s1, by omega, cells_block s2 e4, e5.imp fun d hd u f hf hc => ih d hd u f (fun b hb => absurd (hf b hb) List.not_mem_nil) hc⟩
  | h3 T n k l ih =>
    intro u fp hfp h
    simp only [CR] at h ⊢
    obtain ⟨us, fs, h1, h2, rfl⟩ := h
    exact ⟨us, fs, h1.imp fun d hd u f hf hc => ih d hd u f (fun b hb => hfp b (List.mem_append_right _ (hf b hb))) hc, owns_block h2 fun b hb => hfp b (List.mem_append_left _ hb), rfl⟩
  | h4 i n => intro u fp _ h; simp only [CR] at h ⊢; obtain ⟨h0, h1, h2, h3⟩ := h; exact ⟨h0, (hK i h1).1, (hK i h1).2.trans h2, h3⟩
  | h5 i o =>
    intro u fp _ h
    simp only [CR] at h ⊢
    obtain ⟨h0, h1, h2⟩ := h
    rw [(hK i h1).2]
    exact ⟨h0, (hK i h1).1, h2⟩
  | h6 l o ih =>
    intro u fp _ h
    simp only [CR] at h ⊢
    obtain ⟨h0, b, p, us, e1, e2, e3, e4, e5⟩ := h
    obtain ⟨s1, s2⟩ := hS b e2 e3
    exact ⟨h0, b, p, us, e1, s1, by omega, cells_block s2 e4, e5.imp fun d hd u f hf hc => ih d hd u f (fun b hb => absurd (hf b hb) List.not_mem_nil) hc⟩
  | h7 f c ih =>
    intro u fp _ h
    simp only [CR] at h ⊢
    obtain ⟨h0, us, e1, e2⟩ := h
    exact ⟨h0, us, e1, e2.imp fun d hd u f hf hc => ih d hd u f (fun b hb => absurd (hf b hb) List.not_mem_nil) hc⟩
  | h9 T l ih =>
    intro u fp hfp h
    simp only [CR] at h ⊢
    obtain ⟨b, us, fs, e1, e2, e3, rfl⟩ := h
    exact ⟨b, us, fs, e1, (hfp b List.mem_cons_self).trans e2, e3.imp fun d hd u f hf hc => ih d hd u f (fun b hb => hfp b (List.mem_cons_of_mem _ (hf b hb))) hc, rfl⟩
  | h8 => intro u fp _ h; simp only [CR] at h ⊢; exact h
theorem CRL.mono (hS : ∀ b, St b → b < w.heap.size → St' b ∧ w'.heap[b]? = w.heap[b]?) (hz : w.heap.size ≤ w'.heap.size) (hK : ∀ i, K i → K' i ∧ φ' i = φ i) {l : List AC} {us : List Value} {fp : List Nat}
    (hfp : ∀ b ∈ fp, w'.heap[b]? = w.heap[b]?) (h : CRL w St φ K l us fp) : CRL w' St' φ' K' l us fp :=
  h.imp fun c _ u f hf hc => CR.mono hS hz hK c u f (fun b hb => hfp b (hf b hb)) hc
/-- Each cell is one cell. -/
theorem CR.one : ∀ {c : AC} {u : Value} {fp : List Nat}, c ≠ .un → CR w St φ K c u fp → u.oneCell' = true := by
  intro c u fp hc h
  cases c <;> simp only [CR] at h
  · obtain ⟨rfl, h, _⟩ := h; exact scal_one h
  · obtain ⟨_, A, c, rfl, _⟩ := h; rfl
  · obtain ⟨us, fs, _, ⟨_, ⟨rfl, _⟩ | ⟨b, cap, cur, rfl, _⟩⟩, _⟩ := h <;> rfl
  · obtain ⟨_, _, _, A, c, rfl⟩ := h; rfl
  · obtain ⟨_, _, ⟨b, lo, _, rfl⟩ | ⟨b, n, c, _, rfl⟩⟩ := h <;> rfl
  · obtain ⟨_, b, p, us, rfl, _⟩ := h; rfl
  · obtain ⟨_, us, rfl, _⟩ := h; rfl
  · obtain ⟨b, us, fs, rfl, _⟩ := h; rfl
  · exact absurd rfl hc
end
/-- The blocks that are held are there. -/
theorem CRL.lt_of {w : World} {St : Nat → Prop} {φ : Nat → Lc} {K : Nat → Prop} : ∀ (l : List AC) (us : List Value) (fs : List Nat), (∀ e ∈ l, ∀ (u : Value) (fp : List Nat), CR w St φ K e u fp → ∀ b ∈ fp, b < w.heap.size) → CRL w St φ K l us fs → ∀ b ∈ fs, b < w.heap.size
  | [], us, fs, _, h => by simp only [CRL] at h; obtain ⟨_, rfl⟩ := h; simp
  | c :: r, us, fs, hh, h => by
    simp only [CRL] at h
    obtain ⟨u, us', f1, f2, rfl, rfl, g1, g2⟩ := h
    intro b hb
    rcases List.mem_append.1 hb with hb | hb
    · exact hh c List.mem_cons_self u f1 g1 b hb
    · exact CRL.lt_of r us' f2 (fun e he => hh e (List.mem_cons_of_mem _ he)) g2 b hb
theorem CR.lt {w : World} {St : Nat → Prop} {φ : Nat → Lc} {K : Nat → Prop} : ∀ (c : AC) (u : Value) (fp : List Nat), CR w St φ K c u fp → ∀ b ∈ fp, b < w.heap.size := by
  intro c
  induction c using AC.ind with
  | h1 x => intro u fp h; simp only [CR] at h; obtain ⟨_, _, rfl⟩ := h; simp
  | h2 n k l ih => intro u fp h; simp only [CR] at h; obtain ⟨rfl, _⟩ := h; simp
  | h3 T n k l ih =>
    intro u fp h b hb
    simp only [CR] at h
    obtain ⟨us, fs, h1, h2, rfl⟩ := h
    rcases List.mem_append.1 hb with hb | hb
    · refine (h2.lt b ?_).2
      unfold obl at hb
      cases e : u.ownBlock <;> simp [e] at hb
      rw [hb]
    · exact CRL.lt_of l us fs ih h1 b hb
  | h4 i n => intro u fp h; simp only [CR] at h; obtain ⟨rfl, _⟩ := h; simp
  | h5 i o => intro u fp h; simp only [CR] at h; obtain ⟨rfl, _⟩ := h; simp
  | h6 l o ih => intro u fp h; simp only [CR] at h; obtain ⟨rfl, _⟩ := h; simp
  | h7 f c ih => intro u fp h; simp only [CR] at h; obtain ⟨rfl, _⟩ := h; simp
  | h9 T l ih =>
    intro u fp h b hb
    simp only [CR] at h
    obtain ⟨g, us, fs, _, h1, h2, rfl⟩ := h
    rcases List.mem_cons.1 hb with rfl | hb
    · exact (Array.getElem?_eq_some_iff.1 h1).1
    · exact CRL.lt_of l us fs ih h2 b hb
  | h8 => intro u fp h; simp only [CR] at h; subst h; simp
theorem CRL.lt {w : World} {St : Nat → Prop} {φ : Nat → Lc} {K : Nat → Prop} : ∀ {l : List AC} {us : List Value} {fp : List Nat}, CRL w St φ K l us fp → ∀ b ∈ fp, b < w.heap.size
  | [], us, fp, h => by simp only [CRL] at h; obtain ⟨_, rfl⟩ := h; simp
  | c :: r, us, fp, h => by
    simp only [CRL] at h
    obtain ⟨u, us', f1, f2, rfl, rfl, g1, g2⟩ := h
    intro b hb
    rcases List.mem_append.1 hb with hb | hb
    · exact CR.lt c u f1 g1 b hb
    · exact CRL.lt g2 b hb
mutual
def VR (w : World) (St : Nat → Prop) (φ : Nat → Lc) (K : Nat → Prop) : AV → Value → Prop
  | .c x, u => CR w St φ K x u []
  | .ag l, u => ∃ us, u = .agg us.toArray ∧ CRL w St φ K l us []
  | .tu l, u => ∃ us, u = .tuple us.toArray ∧ VRL w St φ K l us
def VRL (w : World) (St : Nat → Prop) (φ : Nat → Lc) (K : Nat → Prop) : List AV → List Value → Prop
  | [], us => us = []
  | c :: r, us => ∃ u us', us = u :: us' ∧ VR w St φ K c u ∧ VRL w St φ K r us'
end
section
variable {w w' : World} {St St' : Nat → Prop} {φ φ' : Nat → Lc} {K K' : Nat → Prop}
mutual
theorem VR.mono (hS : ∀ b, St b → b < w.heap.size → St' b ∧ w'.heap[b]? = w.heap[b]?) (hz : w.heap.size ≤ w'.heap.size) (hK : ∀ i, K i → K' i ∧ φ' i = φ i) : ∀ (x : AV) (u : Value), VR w St φ K x u → VR w' St' φ' K' x u
  | .c x, u, h => by simp only [VR] at h ⊢; exact CR.mono hS hz hK x u [] (fun b hb => absurd hb List.not_mem_nil) h
  | .ag l, u, h => by
    simp only [VR] at h ⊢
    obtain ⟨us, e, h⟩ := h
    exact ⟨us, e, h.mono hS hz hK (fun b hb => absurd hb List.not_mem_nil)⟩
  | .tu l, u, h => by
    simp only [VR] at h ⊢
    obtain ⟨us, e, h⟩ := h
    exact ⟨us, e, VRL.mono hS hz hK l us h⟩
theorem VRL.mono (hS : ∀ b, St b → b < w.heap.size → St' b ∧ w'.heap[b]? = w.heap[b]?) (hz : w.heap.size ≤ w'.heap.size) (hK : ∀ i, K i → K' i ∧ φ' i = φ i) : ∀ (l : List AV) (us : List Value), VRL w St φ K l us → VRL w' St' φ' K' l us
  | [], us, h => by simp only [VRL] at h ⊢; exact h
  | c :: r, us, h => by
    simp only [VRL] at h ⊢
    obtain ⟨u, us', e, h1, h2⟩ := h
    exact ⟨u, us', e, VR.mono hS hz hK c u h1, VRL.mono hS hz hK r us' h2⟩
end
end

/-- A row of cells in a block. -/
def BoxAt (w : World) (b lo : Nat) (us : List Value) : Prop := ∃ cs T, w.heap[b]? = some (.cells cs T (0, 0)) ∧ ∀ j x, us[j]? = some x → cs[lo + j]? = some x
def RowOk (w : World) (St : Nat → Prop) (φ : Nat → Lc) (K : Nat → Prop) (r : Row) (fp : List Nat) : Lc → Prop
  | .box b lo => r.box = true ∧ ∃ us, CRL w St φ K r.cs us fp ∧ BoxAt w b lo us
  | .slc u => r.box = false ∧ ∃ us fs, CRL w St φ K r.cs us fs ∧ w.ownsRow 0 r.T r.k u r.n us ∧ fp = obl u ++ fs
theorem BoxAt.block {w w' : World} {b lo : Nat} {us : List Value} (h : BoxAt w b lo us) (hb : w'.heap[b]? = w.heap[b]?) : BoxAt w' b lo us := by
  obtain ⟨cs, T, h1, h2⟩ := h
  exact ⟨cs, T, hb.trans h1, h2⟩
theorem BoxAt.cell {w : World} {b lo : Nat} {us : List Value} (h : BoxAt w b lo us) {j : Nat} {x : Value} (hx : us[j]? = some x) : w.cell? ⟨b, lo + j, none⟩ = some x := by
  obtain ⟨cs, T, h1, h2⟩ := h
  rw [cell_of_row _ _ _ _ _ _ h1]; exact h2 j x hx
theorem BoxAt.frz {w : World} {b lo : Nat} {us : List Value} (h : BoxAt w b lo us) (o : Nat) : w.frozen? ⟨b, o, none⟩ = false := by
  obtain ⟨cs, T, h1, h2⟩ := h
  exact frozen_of_row _ _ _ _ _ h1
theorem BoxAt.lt {w : World} {b lo : Nat} {us : List Value} (h : BoxAt w b lo us) : b < w.heap.size := by
  obtain ⟨cs, T, h1, _⟩ := h
  exact (Array.getElem?_eq_some_iff.1 h1).1
end Go.Proofs.Ytfnnbjkjfoiboaa
