/- The abstract machine, two: states; what a state says of a world; what keeps it. -/
import Derived.Test.YtfnnbjkjfoiboaaA1
namespace Go.Proofs.Ytfnnbjkjfoiboaa
open Go.RowKit

/-- Slots, rows, the first name that is free, the names taken in this region, the number of slots. -/
structure AS where
  tm : Nat → AV
  hp : Nat → Option Row
  gn : Nat
  us : List Nat
  L : Nat
def upd {α : Type} (f : Nat → α) (i : Nat) (x : α) : Nat → α := fun j => if j = i then x else f j
theorem upd_same {α : Type} (f : Nat → α) (i : Nat) (x : α) : upd f i x i = x := by simp [upd]
theorem upd_ne {α : Type} (f : Nat → α) {i j : Nat} (x : α) (h : j ≠ i) : upd f i x j = f j := by simp [upd, h]
def AS.put (σ : AS) (dst : Option Nat) (x : AV) : AS :=
  match dst with
  | some d => if d < σ.L then { σ with tm := upd σ.tm d x } else σ
  | none => σ
def AS.Kn (σ : AS) (i : Nat) : Prop := i < σ.gn ∨ i ∈ σ.us
/-- What stands round a call: the world at its beginning, the rows that were lent (their places), the blocks and the cells that may turn, the blocks that stand. -/
structure Ctx where
  w0 : World
  N : Nat
  pl : Nat → Nat × Nat
  M : Nat → Prop
  R : Nat → Nat → Prop
  S0 : Nat → Prop
def LikeBut (R : Nat → Prop) (x y : Option Obj) : Prop :=
  y = x ∨ ∃ c c' e, x = some (.cells c e (0, 0)) ∧ y = some (.cells c' e (0, 0)) ∧ c'.size = c.size ∧ ∀ o, ¬ R o → c'[o]? = c[o]?
theorem LikeBut.trans {R : Nat → Prop} {x y z : Option Obj} (h : LikeBut R x y) (h' : LikeBut R y z) : LikeBut R x z := by
  rcases h with rfl | ⟨c, c', e, rfl, rfl, h1, h2⟩
  · exact h'
  · rcases h' with rfl | ⟨d, d', e', h3, rfl, h4, h5⟩
    · exact .inr ⟨c, c', e, rfl, rfl, h1, h2⟩
    · injection h3 with h3
      injection h3 with h3 h3'
      subst h3 h3'
      exact .inr ⟨c, d', e, rfl, rfl, by omega, fun o ho => (h5 o ho).trans (h2 o ho)⟩
/-- What was there at the beginning is as it was, but for what was lent. -/
structure Fc (M : Nat → Prop) (R : Nat → Nat → Prop) (w w' : World) : Prop where
  os : w'.os = w.os
  tape : w'.tape = w.tape
  output : w'.output = w.output
  size : w.heap.size ≤ w'.heap.size
  blk : ∀ b, b < w.heap.size → ¬ M b → LikeBut (R b) w.heap[b]? w'.heap[b]?
theorem Fc.refl (M : Nat → Prop) (R : Nat → Nat → Prop) (w : World) : Fc M R w w := ⟨rfl, rfl, rfl, Nat.le_refl _, fun _ _ _ => .inl rfl⟩
theorem Fc.trans {M : Nat → Prop} {R : Nat → Nat → Prop} {a b c : World} (h : Fc M R a b) (k : Fc M R b c) : Fc M R a c :=
  ⟨k.os.trans h.os, k.tape.trans h.tape, k.output.trans h.output, Nat.le_trans h.size k.size, fun i hi hm => (h.blk i hi hm).trans (k.blk i (Nat.lt_of_lt_of_le hi h.size) hm)⟩
/-- A step of the world: nothing but the block b turns (if any). -/
structure Stp (b : Option Nat) (w w' : World) : Prop where
  os : w'.os = w.os
  tape : w'.tape = w.tape
  output : w'.output = w.output
  size : w.heap.size ≤ w'.heap.size
  blk : ∀ i, i < w.heap.size → some i ≠ b → w'.heap[i]? = w.heap[i]?
theorem Stp.refl (b : Option Nat) (w : World) : Stp b w w := ⟨rfl, rfl, rfl, Nat.le_refl _, fun _ _ _ => rfl⟩
theorem Stp.of_grown {b : Option Nat} {w w' : World} (h : w.grownBy w' b) : Stp b w w' := ⟨h.os, h.tape, h.output, h.size, h.block⟩
theorem Stp.alloc (w : World) (o : Obj) (b : Option Nat) : Stp b w (w.alloc o) := .of_grown (World.grownBy_alloc w o b)
theorem Stp.drawn (w : World) (n : Nat) (b : Option Nat) : Stp b w { w with drawn := n } := ⟨rfl, rfl, rfl, Nat.le_refl _, fun _ _ _ => rfl⟩
theorem Stp.setRow (w : World) (g : Nat) (cs : Array Value) : Stp (some g) w (w.setRow g cs) :=
  ⟨rfl, rfl, rfl, by simp, fun i _ hn => setRow_other w g i cs (fun e => hn (by rw [e]))⟩

structure SimF (C : Ctx) (φ : Nat → Lc) (F : Nat → List Nat) (St : Nat → Prop) (σ : AS) (a : Act) (w : World) : Prop where
  dfr : a.defers = []
  len : a.tmps.size = σ.L
  tms : ∀ t, VR w St φ σ.Kn (σ.tm t) (a.tmps.getD t undef)
  row : ∀ i r, σ.hp i = some r → σ.Kn i ∧ RowOk w St φ σ.Kn r (F i) (φ i)
  nod : ∀ i r, σ.hp i = some r → (F i).Nodup
  dis : ∀ i j r s, σ.hp i = some r → σ.hp j = some s → i ≠ j → ∀ b ∈ F i, b ∉ F j
  bxF : ∀ i j r s b lo, σ.hp i = some r → σ.hp j = some s → φ i = .box b lo → b ∉ F j
  bxd : ∀ i j r s b lo lo', σ.hp i = some r → σ.hp j = some s → i ≠ j → φ i = .box b lo → φ j = .box b lo' → lo + r.cs.length ≤ lo' ∨ lo' + s.cs.length ≤ lo
  stF : ∀ i r b, σ.hp i = some r → b ∈ F i → ¬ St b
  stB : ∀ i r b lo, σ.hp i = some r → φ i = .box b lo → ¬ St b
  frm : Fc C.M C.R C.w0 w
  own : ∀ i r b, σ.hp i = some r → b ∈ F i → C.M b ∨ C.w0.heap.size ≤ b
  par : ∀ i, i < C.N → φ i = .box (C.pl i).1 (C.pl i).2 ∧ ∀ r, σ.hp i = some r → ∀ j, j < r.cs.length → C.R (C.pl i).1 ((C.pl i).2 + j)
  new : ∀ i r b lo, σ.hp i = some r → φ i = .box b lo → C.N ≤ i → C.w0.heap.size ≤ b
  gnN : C.N ≤ σ.gn
  stS : ∀ b, St b → b < C.w0.heap.size → C.S0 b ∨ C.M b
def Sim (C : Ctx) (σ : AS) (a : Act) (w : World) : Prop := ∃ φ F St, SimF C φ F St σ a w
/-- A claim about states, as a claim about slots and worlds. -/
def Lift (C : Ctx) (Q : AS → Prop) : Act → World → Prop := fun a w => ∃ σ, Q σ ∧ Sim C σ a w

/-- A block that nobody holds or reads, and that may turn. -/
def Free (C : Ctx) (φ : Nat → Lc) (F : Nat → List Nat) (St : Nat → Prop) (σ : AS) (b : Nat) : Prop :=
  (∀ j s, σ.hp j = some s → b ∉ F j ∧ ∀ lo, φ j ≠ .box b lo) ∧ ¬ St b ∧ (C.M b ∨ C.w0.heap.size ≤ b)
section
variable {C : Ctx} {φ φ' : Nat → Lc} {F : Nat → List Nat} {St : Nat → Prop} {σ : AS} {a : Act} {w w' : World}
theorem undef_un {St : Nat → Prop} {φ : Nat → Lc} {K : Nat → Prop} (u : Value) : VR w St φ K (.c .un) u := by simp [VR, CR]
/-- A value is put into a slot. -/
theorem SimF.put (h : SimF C φ F St σ a w) (dst : Option Nat) {x : AV} {u : Value} (hx : VR w St φ σ.Kn x u) : SimF C φ F St (σ.put dst x) (a.put dst u) w := by
  rcases dst with _ | d
  · exact h
  · unfold AS.put Act.put
    dsimp only
    by_cases hd : d < σ.L
    · rw [if_pos hd]
      refine ⟨h.dfr, by simpa using h.len, fun t => ?_, h.row, h.nod, h.dis, h.bxF, h.bxd, h.stF, h.stB, h.frm, h.own, h.par, h.new, h.gnN, h.stS⟩
      show VR w St φ σ.Kn (upd σ.tm d x t) _
      by_cases ht : t = d
      · subst ht
        rw [upd_same]
        have : (a.tmps.setIfInBounds t u).getD t undef = u := by simp [Array.getD, h.len, hd]
        rw [this]; exact hx
      · rw [upd_ne _ _ ht]
        have : (a.tmps.setIfInBounds d u).getD t undef = a.tmps.getD t undef := by
          have e : (a.tmps.setIfInBounds d u)[t]? = a.tmps[t]? := Array.getElem?_setIfInBounds_ne (Ne.symm ht)
          simp only [Array.getD_eq_getD_getElem?, e]
        rw [this]; exact h.tms t
    · rw [if_neg hd]
      have e : a.tmps.setIfInBounds d u = a.tmps := by
        have := h.len
        simp [Array.setIfInBounds, show ¬ d < a.tmps.size by omega]
      rw [e]; exact h
theorem RowOk.lt {K : Nat → Prop} {r : Row} {fp : List Nat} : ∀ {L : Lc}, RowOk w St φ K r fp L → ∀ b ∈ fp, b < w.heap.size
  | .box b lo, h => by obtain ⟨_, us, h1, _⟩ := h; exact h1.lt
  | .slc u, h => by
    obtain ⟨_, us, fs, h1, h2, rfl⟩ := h
    intro b hb
    rcases List.mem_append.1 hb with hb | hb
    · exact (h2.lt b (by unfold obl at hb; cases e : u.ownBlock <;> simp [e] at hb; rw [hb])).2
    · exact h1.lt b hb
theorem RowOk.mono {St' : Nat → Prop} {K K' : Nat → Prop} {r : Row} {fp : List Nat} (hS : ∀ b, St b → b < w.heap.size → St' b ∧ w'.heap[b]? = w.heap[b]?) (hz : w.heap.size ≤ w'.heap.size) (hK : ∀ i, K i → K' i ∧ φ' i = φ i)
    (hfp : ∀ b ∈ fp, w'.heap[b]? = w.heap[b]?) : ∀ {L : Lc}, (∀ b lo us, L = .box b lo → us.length = r.cs.length → BoxAt w b lo us → BoxAt w' b lo us) → RowOk w St φ K r fp L → RowOk w' St' φ' K' r fp L
  | .box b lo, hb, h => by obtain ⟨e, us, h1, h2⟩ := h; exact ⟨e, us, h1.mono hS hz hK hfp, hb b lo us rfl h1.len h2⟩
  | .slc u, _, h => by
    obtain ⟨e, us, fs, h1, h2, rfl⟩ := h
    exact ⟨e, us, fs, h1.mono hS hz hK fun b hb => hfp b (List.mem_append_right _ hb), owns_block h2 fun b hb => hfp b (List.mem_append_left _ hb), rfl⟩
/-- The world goes on; what is held stands. -/
theorem SimF.keep (h : SimF C φ F St σ a w) (hs : Stp none w w') : SimF C φ F St σ a w' := by
  have hS : ∀ b, St b → b < w.heap.size → St b ∧ w'.heap[b]? = w.heap[b]? := fun b hb hl => ⟨hb, hs.blk b hl (by simp)⟩
  have hK : ∀ i, σ.Kn i → σ.Kn i ∧ φ i = φ i := fun i hi => ⟨hi, rfl⟩
  refine ⟨h.dfr, h.len, fun t => VR.mono hS hs.size hK _ _ (h.tms t), fun i r hr => ⟨(h.row i r hr).1, ?_⟩, h.nod, h.dis, h.bxF, h.bxd, h.stF, h.stB, ?_, h.own, h.par, h.new, h.gnN, h.stS⟩
  · have h1 := (h.row i r hr).2
    exact h1.mono hS hs.size hK (fun b hb => hs.blk b (h1.lt b hb) (by simp)) fun b lo us _ _ hB => hB.block (hs.blk b hB.lt (by simp))
  · exact h.frm.trans ⟨hs.os, hs.tape, hs.output, hs.size, fun b hb _ => .inl (hs.blk b hb (by simp))⟩
/-- A row turns, in its block. -/
theorem SimF.setRow (h : SimF C φ F St σ a w) {i : Nat} {r r' : Row} (hr : σ.hp i = some r) {b0 : Nat} (hs : Stp (some b0) w w') (hb0 : (∃ lo, φ i = .box b0 lo) ∨ b0 ∈ F i) (hlen : r'.cs.length = r.cs.length)
    {F' : List Nat} (hn : RowOk w' St φ σ.Kn r' F' (φ i)) (hsub : ∀ b ∈ F', b ∈ F i ∨ Free C φ F St σ b) (hnd : F'.Nodup)
    (hoth : ∀ j s lo us, σ.hp j = some s → j ≠ i → φ j = .box b0 lo → us.length = s.cs.length → BoxAt w b0 lo us → BoxAt w' b0 lo us)
    (hfrm : b0 < C.w0.heap.size → ¬ C.M b0 → LikeBut (C.R b0) w.heap[b0]? w'.heap[b0]?) :
    SimF C φ (upd F i F') St { σ with hp := upd σ.hp i (some r') } a w' := by
  have hnS : ¬ St b0 := by
    rcases hb0 with ⟨lo, e⟩ | hb
    · exact h.stB i r b0 lo hr e
    · exact h.stF i r b0 hr hb
  have hnF : ∀ j s, σ.hp j = some s → j ≠ i → b0 ∉ F j := by
    intro j s hj hji
    rcases hb0 with ⟨lo, e⟩ | hb
    · exact h.bxF i j r s b0 lo hr hj e
    · exact h.dis i j r s hr hj (Ne.symm hji) b0 hb
  have hS : ∀ b, St b → b < w.heap.size → St b ∧ w'.heap[b]? = w.heap[b]? := fun b hb hl => ⟨hb, hs.blk b hl (by intro e; injection e with e; subst e; exact hnS hb)⟩
  have hK : ∀ i, σ.Kn i → σ.Kn i ∧ φ i = φ i := fun i hi => ⟨hi, rfl⟩
  have old : ∀ j s, upd σ.hp i (some r') j = some s → j ≠ i → σ.hp j = some s := fun j s hj hji => by rwa [upd_ne _ _ hji] at hj
  have now : ∀ s, upd σ.hp i (some r') i = some s → r' = s := fun s hj => by rw [upd_same] at hj; injection hj
  refine ⟨h.dfr, h.len, fun t => VR.mono hS hs.size hK _ _ (h.tms t), fun j s hj => ?_, fun j s hj => ?_, fun j k s t hj hk hjk b hb => ?_, fun j k s t b lo hj hk e => ?_, fun j k s t b lo lo' hj hk hjk e e' => ?_, fun j s b hj hb => ?_, fun j s b lo hj e => ?_, ?_, fun j s b hj hb => ?_, fun j hj => ⟨(h.par j hj).1, fun s hs' => ?_⟩, fun j s b lo hj e hN => ?_, h.gnN, h.stS⟩
  · by_cases hji : j = i
    · subst hji
      obtain rfl := now s hj
      rw [upd_same]
      exact ⟨(h.row j r hr).1, hn⟩
    · have hj' := old j s hj hji
      rw [upd_ne _ _ hji]
      have h1 := (h.row j s hj').2
      refine ⟨(h.row j s hj').1, h1.mono hS hs.size hK (fun b hb => hs.blk b (h1.lt b hb) (by intro e; injection e with e; subst e; exact hnF j s hj' hji hb)) fun b lo us e hl hB => ?_⟩
      by_cases hbb : b = b0
      · subst hbb; exact hoth j s lo us hj' hji e hl hB
      · exact hB.block (hs.blk b hB.lt (by intro e; injection e with e; exact hbb e))
  · by_cases hji : j = i
    · subst hji; rw [upd_same]; exact hnd
    · rw [upd_ne _ _ hji]; exact h.nod j s (old j s hj hji)
  · by_cases hji : j = i
    · subst hji
      have hki : k ≠ j := Ne.symm hjk
      rw [upd_same] at hb; rw [upd_ne _ _ hki]
      exact (hsub b hb).elim (h.dis j k r t hr (old k t hk hki) hjk b) fun hf => (hf.1 k t (old k t hk hki)).1
    · rw [upd_ne _ _ hji] at hb
      by_cases hki : k = i
      · subst hki
        rw [upd_same]
        exact fun hb' => (hsub b hb').elim (h.dis j k s r (old j s hj hji) hr hjk b hb) fun hf => (hf.1 j s (old j s hj hji)).1 hb
      · rw [upd_ne _ _ hki]
        exact h.dis j k s t (old j s hj hji) (old k t hk hki) hjk b hb
  · have hj' : ∃ s, σ.hp j = some s := by
      by_cases hji : j = i
      · subst hji; exact ⟨r, hr⟩
      · exact ⟨s, old j s hj hji⟩
    obtain ⟨s', hj'⟩ := hj'
    by_cases hki : k = i
    · subst hki
      rw [upd_same]
      exact fun hb => (hsub b hb).elim (h.bxF j k s' r b lo hj' hr e) fun hf => (hf.1 j s' hj').2 lo e
    · rw [upd_ne _ _ hki]
      exact h.bxF j k s' t b lo hj' (old k t hk hki) e
  · by_cases hji : j = i
    · subst hji
      obtain rfl := now s hj
      rw [hlen]
      exact h.bxd j k r t b lo lo' hr (old k t hk (Ne.symm hjk)) hjk e e'
    · by_cases hki : k = i
      · subst hki
        obtain rfl := now t hk
        rw [hlen]
        exact h.bxd j k s r b lo lo' (old j s hj hji) hr hjk e e'
      · exact h.bxd j k s t b lo lo' (old j s hj hji) (old k t hk hki) hjk e e'
  · by_cases hji : j = i
    · subst hji; rw [upd_same] at hb; exact (hsub b hb).elim (h.stF j r b hr) fun hf => hf.2.1
    · rw [upd_ne _ _ hji] at hb; exact h.stF j s b (old j s hj hji) hb
  · by_cases hji : j = i
    · subst hji; exact h.stB j r b lo hr e
    · exact h.stB j s b lo (old j s hj hji) e
  · have hf := h.frm
    refine ⟨hs.os.trans hf.os, hs.tape.trans hf.tape, hs.output.trans hf.output, Nat.le_trans hf.size hs.size, fun b hb hM => (hf.blk b hb hM).trans ?_⟩
    by_cases hbb : b = b0
    · subst hbb; exact hfrm hb hM
    · exact .inl (hs.blk b (Nat.lt_of_lt_of_le hb hf.size) (by intro e; injection e with e; exact hbb e))
  · by_cases hji : j = i
    · subst hji; rw [upd_same] at hb; exact (hsub b hb).elim (h.own j r b hr) fun hf => hf.2.2
    · rw [upd_ne _ _ hji] at hb; exact h.own j s b (old j s hj hji) hb
  · by_cases hji : j = i
    · subst hji
      obtain rfl := now s hs'
      rw [hlen]
      exact (h.par j hj).2 r hr
    · exact (h.par j hj).2 s (old j s hs' hji)
  · by_cases hji : j = i
    · subst hji; exact h.new j r b lo hr e hN
    · exact h.new j s b lo (old j s hj hji) e hN
/-- A new row, in a new block (or behind a slice that has none). -/
theorem SimF.newRow (h : SimF C φ F St σ a w) {i : Nat} (hg : σ.gn ≤ i) (hu : i ∉ σ.us) {b0 : Option Nat} (hs : Stp b0 w w') (hb0 : ∀ b, b0 = some b → Free C φ F St σ b) {r : Row} {L : Lc} {fp : List Nat}
    (hn : ∀ St' φ', (∀ b, St b → b < w.heap.size → St' b ∧ w'.heap[b]? = w.heap[b]?) → (∀ j, σ.Kn j → φ' j = φ j) → RowOk w' St' φ' (fun j => j < σ.gn ∨ j ∈ i :: σ.us) r fp L)
    (hnd : fp.Nodup) (hfp : ∀ b ∈ fp, w.heap.size ≤ b ∨ Free C φ F St σ b) (hbx : ∀ b lo, L = .box b lo → w.heap.size ≤ b ∧ b ∉ fp) :
    SimF C (upd φ i L) (upd F i fp) (fun b => St b ∧ b < w.heap.size) { σ with hp := upd σ.hp i (some r), us := i :: σ.us } a w' := by
  have hnk : ¬ σ.Kn i := fun hk => hk.elim (fun h1 => absurd h1 (by omega)) hu
  have hφ : ∀ j, σ.Kn j → upd φ i L j = φ j := fun j hj => upd_ne _ _ (by rintro rfl; exact hnk hj)
  have hnone : σ.hp i = none := by
    cases e : σ.hp i with
    | none => rfl
    | some s => exact absurd (h.row i s e).1 hnk
  have hS : ∀ b, St b → b < w.heap.size → (St b ∧ b < w.heap.size) ∧ w'.heap[b]? = w.heap[b]? := fun b hb hl => ⟨⟨hb, hl⟩, hs.blk b hl fun e => (hb0 b e.symm).2.1 hb⟩
  have hK : ∀ j, σ.Kn j → (j < σ.gn ∨ j ∈ i :: σ.us) ∧ upd φ i L j = φ j := fun j hj => ⟨hj.imp id (List.mem_cons_of_mem _), hφ j hj⟩
  have old : ∀ j s, upd σ.hp i (some r) j = some s → j ≠ i → σ.hp j = some s := fun j s hj hji => by rwa [upd_ne _ _ hji] at hj
  have now : ∀ s, upd σ.hp i (some r) i = some s → r = s := fun s hj => by rw [upd_same] at hj; injection hj
  have ltF : ∀ j s b, σ.hp j = some s → b ∈ F j → b < w.heap.size := fun j s b hj hb => (h.row j s hj).2.lt b hb
  have ltB : ∀ j s b lo, σ.hp j = some s → φ j = .box b lo → b < w.heap.size := fun j s b lo hj e => by
    have h1 := (h.row j s hj).2
    rw [e] at h1
    obtain ⟨_, us, _, h2⟩ := h1
    exact h2.lt
  have hkk : ∀ j s, σ.hp j = some s → σ.Kn j := fun j s hj => (h.row j s hj).1
  refine ⟨h.dfr, h.len, fun t => VR.mono hS hs.size hK _ _ (h.tms t), fun j s hj => ?_, fun j s hj => ?_, fun j k s t hj hk hjk b hb => ?_, fun j k s t b lo hj hk e => ?_, fun j k s t b lo lo' hj hk hjk e e' => ?_, fun j s b hj hb => ?_, fun j s b lo hj e => ?_, ?_, fun j s b hj hb => ?_, fun j hj => ?_, fun j s b lo hj e hN => ?_, h.gnN, fun b hb => h.stS b hb.1⟩
  · by_cases hji : j = i
    · subst hji
      obtain rfl := now s hj
      simp only [upd_same]
      exact ⟨.inr List.mem_cons_self, hn _ _ hS hφ⟩
    · have hj' := old j s hj hji
      simp only [upd_ne _ _ hji]
      have h1 := (h.row j s hj').2
      exact ⟨(hK j (hkk j s hj')).1, h1.mono hS hs.size hK (fun b hb => hs.blk b (h1.lt b hb) fun e => ((hb0 b e.symm).1 j s hj').1 hb) fun b lo us e' _ hB => hB.block (hs.blk b hB.lt fun e => ((hb0 b e.symm).1 j s hj').2 lo e')⟩
  · by_cases hji : j = i
    · subst hji; simp only [upd_same]; exact hnd
    · simp only [upd_ne _ _ hji]; exact h.nod j s (old j s hj hji)
  · by_cases hji : j = i
    · subst hji
      have hki : k ≠ j := Ne.symm hjk
      simp only [upd_same] at hb; simp only [upd_ne _ _ hki]
      exact fun hb' => (hfp b hb).elim (fun h1 => by have := ltF k t b (old k t hk hki) hb'; omega) fun hf => (hf.1 k t (old k t hk hki)).1 hb'
    · simp only [upd_ne _ _ hji] at hb
      have hj' := old j s hj hji
      by_cases hki : k = i
      · subst hki
        simp only [upd_same]
        exact fun hb' => (hfp b hb').elim (fun h1 => by have := ltF j s b hj' hb; omega) fun hf => (hf.1 j s hj').1 hb
      · simp only [upd_ne _ _ hki]
        exact h.dis j k s t hj' (old k t hk hki) hjk b hb
  · by_cases hji : j = i
    · subst hji
      simp only [upd_same] at e
      by_cases hki : k = j
      · subst hki; simp only [upd_same]; exact (hbx b lo e).2
      · simp only [upd_ne _ _ hki]
        exact fun hb' => by have := ltF k t b (old k t hk hki) hb'; have := (hbx b lo e).1; omega
    · simp only [upd_ne _ _ hji] at e
      have hj' := old j s hj hji
      by_cases hki : k = i
      · subst hki
        simp only [upd_same]
        exact fun hb' => (hfp b hb').elim (fun h1 => by have := ltB j s b lo hj' e; omega) fun hf => (hf.1 j s hj').2 lo e
      · simp only [upd_ne _ _ hki]
        exact h.bxF j k s t b lo hj' (old k t hk hki) e
  · by_cases hji : j = i
    · subst hji
      have hki : k ≠ j := Ne.symm hjk
      simp only [upd_same] at e; simp only [upd_ne _ _ hki] at e'
      have := ltB k t b lo' (old k t hk hki) e'
      have := (hbx b lo e).1
      omega
    · simp only [upd_ne _ _ hji] at e
      by_cases hki : k = i
      · subst hki
        simp only [upd_same] at e'
        have := ltB j s b lo (old j s hj hji) e
        have := (hbx b lo' e').1
        omega
      · simp only [upd_ne _ _ hki] at e'
        exact h.bxd j k s t b lo lo' (old j s hj hji) (old k t hk hki) hjk e e'
  · by_cases hji : j = i
    · subst hji; simp only [upd_same] at hb; exact fun hst => (hfp b hb).elim (fun h1 => by have := hst.2; omega) fun hf => hf.2.1 hst.1
    · simp only [upd_ne _ _ hji] at hb; exact fun hst => h.stF j s b (old j s hj hji) hb hst.1
  · by_cases hji : j = i
    · subst hji; simp only [upd_same] at e; exact fun hst => by have := (hbx b lo e).1; have := hst.2; omega
    · simp only [upd_ne _ _ hji] at e; exact fun hst => h.stB j s b lo (old j s hj hji) e hst.1
  · have hf := h.frm
    refine ⟨hs.os.trans hf.os, hs.tape.trans hf.tape, hs.output.trans hf.output, Nat.le_trans hf.size hs.size, fun b hb hM => (hf.blk b hb hM).trans (.inl (hs.blk b (Nat.lt_of_lt_of_le hb hf.size) fun e => ?_))⟩
    rcases (hb0 b e.symm).2.2 with h1 | h1
    · exact hM h1
    · omega
  · by_cases hji : j = i
    · subst hji; simp only [upd_same] at hb; exact (hfp b hb).elim (fun h1 => .inr (Nat.le_trans h.frm.size h1)) fun hf => hf.2.2
    · simp only [upd_ne _ _ hji] at hb; exact h.own j s b (old j s hj hji) hb
  · have hji : j ≠ i := by have := h.gnN; omega
    simp only [upd_ne _ _ hji]
    exact ⟨(h.par j hj).1, fun s hs' => (h.par j hj).2 s hs'⟩
  · by_cases hji : j = i
    · subst hji; simp only [upd_same] at e; exact Nat.le_trans h.frm.size (hbx b lo e).1
    · simp only [upd_ne _ _ hji] at e; exact h.new j s b lo (old j s hj hji) e hN
/-- A row is given up. -/
theorem SimF.drop (h : SimF C φ F St σ a w) (i : Nat) : SimF C φ F St { σ with hp := upd σ.hp i none } a w := by
  have old : ∀ j s, upd σ.hp i none j = some s → σ.hp j = some s := fun j s hj => by
    by_cases hji : j = i
    · subst hji; rw [upd_same] at hj; cases hj
    · rwa [upd_ne _ _ hji] at hj
  exact ⟨h.dfr, h.len, h.tms, fun j s hj => h.row j s (old j s hj), fun j s hj => h.nod j s (old j s hj), fun j k s t hj hk => h.dis j k s t (old j s hj) (old k t hk), fun j k s t b lo hj hk => h.bxF j k s t b lo (old j s hj) (old k t hk),
    fun j k s t b lo lo' hj hk => h.bxd j k s t b lo lo' (old j s hj) (old k t hk), fun j s b hj => h.stF j s b (old j s hj), fun j s b lo hj => h.stB j s b lo (old j s hj), h.frm, fun j s b hj => h.own j s b (old j s hj),
    fun j hj => ⟨(h.par j hj).1, fun s hs => (h.par j hj).2 s (old j s hs)⟩, fun j s b lo hj => h.new j s b lo (old j s hj), h.gnN, h.stS⟩
/-- What a row held is free when it is given up. -/
theorem SimF.free (h : SimF C φ F St σ a w) {i : Nat} {r : Row} (hr : σ.hp i = some r) {b : Nat} (hb : b ∈ F i) : Free C φ F St { σ with hp := upd σ.hp i none } b := by
  refine ⟨fun j s hj => ?_, h.stF i r b hr hb, h.own i r b hr hb⟩
  by_cases hji : j = i
  · subst hji
    have hj' : upd σ.hp j none j = some s := hj
    rw [upd_same] at hj'; cases hj'
  · have hj' : upd σ.hp i none j = some s := hj
    rw [upd_ne _ _ hji] at hj'
    exact ⟨h.dis i j r s hr hj' (Ne.symm hji) b hb, fun lo e => h.bxF j i s r b lo hj' hr e hb⟩
end
end Go.Proofs.Ytfnnbjkjfoiboaa
