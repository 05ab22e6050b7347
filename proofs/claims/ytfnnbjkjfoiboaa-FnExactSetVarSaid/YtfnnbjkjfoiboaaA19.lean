/- The abstract machine, nineteen: states tidied (slots and rows that are kept, under new names). -/
import Derived.Test.YtfnnbjkjfoiboaaA18
namespace Go.Proofs.Ytfnnbjkjfoiboaa
open Go.RowKit

mutual
def rnC (ρ : Nat → Option Nat) : AC → Option AC
  | .v x => some (.v x)
  | .ro n k l => if cloL l = true then some (.ro n k l) else none
  | .ow T n k l => if cloL l = true then some (.ow T n k l) else none
  | .sl i n => (ρ i).map fun j => .sl j n
  | .pt i o => (ρ i).map fun j => .pt j o
  | .rp l o => if cloL l = true then some (.rp l o) else none
  | .fn f c => (rnL ρ c).map fun c' => .fn f c'
  | .bx T l => if cloL l = true then some (.bx T l) else none
  | .un => some .un
def rnL (ρ : Nat → Option Nat) : List AC → Option (List AC)
  | [] => some []
  | c :: r => match rnC ρ c, rnL ρ r with
    | some c', some r' => some (c' :: r')
    | _, _ => none
end
mutual
def rnV (ρ : Nat → Option Nat) : AV → Option AV
  | .c x => (rnC ρ x).map .c
  | .ag l => (rnL ρ l).map .ag
  | .tu l => (rnVL ρ l).map .tu
def rnVL (ρ : Nat → Option Nat) : List AV → Option (List AV)
  | [] => some []
  | c :: r => match rnV ρ c, rnVL ρ r with
    | some c', some r' => some (c' :: r')
    | _, _ => none
end
/-- New name, old name, row. -/
abbrev RL := List (Nat × Nat × Row)
def oldN (rows : RL) (i : Nat) : Option Nat := (rows.find? fun p => p.2.1 == i).map (·.1)
def ρN (gn : Nat) (rows : RL) (i : Nat) : Option Nat := if i < gn then some i else oldN rows i
def tmsF : List (Nat × AV) → Nat → AV
  | [] => fun _ => .c .un
  | (t, x) :: l => upd (tmsF l) t x
def hpsF : RL → Nat → Option Row
  | [] => fun _ => none
  | (j, _, s) :: l => upd (hpsF l) j (some s)
def nodupB : List Nat → Bool
  | [] => true
  | x :: r => !r.contains x && nodupB r
def tidyB (gn : Nat) (rows : RL) : Bool := (rows.all fun p => if p.2.1 < gn then p.1 == p.2.1 else decide (gn ≤ p.1)) && nodupB (rows.map (·.1)) && nodupB (rows.map (·.2.1))
def TmOk (ρ : Nat → Option Nat) (tm : Nat → AV) : List (Nat × AV) → Prop
  | [] => True
  | (t, x) :: l => rnV ρ (tm t) = some x ∧ TmOk ρ tm l
def RwOk (ρ : Nat → Option Nat) (hp : Nat → Option Row) : RL → Prop
  | [] => True
  | (_, i, s) :: l => (∃ r, hp i = some r ∧ ((cloL r.cs = true ∧ s = r) ∨ ∃ cs, rnL ρ r.cs = some cs ∧ s = { r with cs := cs })) ∧ RwOk ρ hp l
theorem nodupB_to : ∀ {l : List Nat}, nodupB l = true → l.Nodup
  | [], _ => List.nodup_nil
  | x :: r, h => by
    simp only [nodupB, Bool.and_eq_true, Bool.not_eq_true'] at h
    exact List.nodup_cons.2 ⟨fun hm => by have := h.1; simp at this; exact this hm, nodupB_to h.2⟩
theorem tmsF_to {ρ : Nat → Option Nat} {tm : Nat → AV} : ∀ {l : List (Nat × AV)}, TmOk ρ tm l → ∀ t, tmsF l t = .c .un ∨ rnV ρ (tm t) = some (tmsF l t)
  | [], _, t => .inl rfl
  | (t', x) :: l, h, t => by
    simp only [tmsF]
    by_cases e : t = t'
    · subst e; rw [upd_same]; exact .inr h.1
    · rw [upd_ne _ _ e]; exact tmsF_to h.2 t
theorem hpsF_to : ∀ {rows : RL} {j : Nat} {s : Row}, hpsF rows j = some s → ∃ i, (j, i, s) ∈ rows
  | [], j, s, h => by simp [hpsF] at h
  | (j', i, s') :: l, j, s, h => by
    simp only [hpsF] at h
    by_cases e : j = j'
    · subst e; rw [upd_same] at h; injection h with h; subst h; exact ⟨i, List.mem_cons_self⟩
    · rw [upd_ne _ _ e] at h
      obtain ⟨i', h⟩ := hpsF_to h
      exact ⟨i', List.mem_cons_of_mem _ h⟩
theorem RwOk.at_ {ρ : Nat → Option Nat} {hp : Nat → Option Row} : ∀ {rows : RL}, RwOk ρ hp rows → ∀ p ∈ rows, ∃ r, hp p.2.1 = some r ∧ ((cloL r.cs = true ∧ p.2.2 = r) ∨ ∃ cs, rnL ρ r.cs = some cs ∧ p.2.2 = { r with cs := cs })
  | [], _, p, hp => by cases hp
  | (j, i, s) :: l, h, p, hp => by
    rcases List.mem_cons.1 hp with rfl | hp
    · exact h.1
    · exact RwOk.at_ h.2 p hp
theorem map_inj {α : Type} {f : α → Nat} : ∀ {l : List α} {x y : α}, (l.map f).Nodup → x ∈ l → y ∈ l → f x = f y → x = y
  | [], _, _, _, h, _, _ => by cases h
  | z :: r, x, y, hn, hx, hy, e => by
    have hn' := List.nodup_cons.1 hn
    rcases List.mem_cons.1 hx with e1 | hx' <;> rcases List.mem_cons.1 hy with e2 | hy'
    · rw [e1, e2]
    · subst e1; exact absurd (e ▸ List.mem_map_of_mem hy') hn'.1
    · subst e2; exact absurd (e.symm ▸ List.mem_map_of_mem hx') hn'.1
    · exact map_inj hn'.2 hx' hy' e
section
variable {C : Ctx} {φ φ' : Nat → Lc} {F : Nat → List Nat} {St : Nat → Prop} {σ : AS} {a : Act} {w : World} {K K' : Nat → Prop} {ρ : Nat → Option Nat}
theorem rnC_to (hρ : ∀ i j, K i → ρ i = some j → K' j ∧ φ' j = φ i) : ∀ (c : AC) (c' : AC) (u : Value) (fp : List Nat), rnC ρ c = some c' → CR w St φ K c u fp → CR w St φ' K' c' u fp := by
  intro c
  induction c using AC.ind with
  | h1 x => intro c' u fp he h; simp only [rnC, Option.some.injEq] at he; subst he; simp only [CR] at h ⊢; exact h
  | h2 n k l _ =>
    intro c' u fp he h
    simp only [rnC] at he
    split at he
    · rename_i hc; injection he with he; subst he; exact CR.clo_ _ _ _ (by simpa [clo] using hc) h
    · cases he
  | h3 T n k l _ =>
    intro c' u fp he h
    simp only [rnC] at he
    split at he
    · rename_i hc; injection he with he; subst he; exact CR.clo_ _ _ _ (by simpa [clo] using hc) h
    · cases he
  | h4 i n =>
    intro c' u fp he h
    simp only [rnC, Option.map_eq_some_iff] at he
    obtain ⟨j, hj, rfl⟩ := he
    simp only [CR] at h ⊢
    obtain ⟨h0, h1, h2, h3⟩ := h
    have := hρ i j h1 hj
    exact ⟨h0, this.1, this.2.trans h2, h3⟩
  | h5 i o =>
    intro c' u fp he h
    simp only [rnC, Option.map_eq_some_iff] at he
    obtain ⟨j, hj, rfl⟩ := he
    simp only [CR] at h ⊢
    obtain ⟨h0, h1, h2⟩ := h
    have := hρ i j h1 hj
    rw [this.2]
    exact ⟨h0, this.1, h2⟩
  | h6 l o _ =>
    intro c' u fp he h
    simp only [rnC] at he
    split at he
    · rename_i hc; injection he with he; subst he; exact CR.clo_ _ _ _ (by simpa [clo] using hc) h
    · cases he
  | h7 f c ih =>
    intro c' u fp he h
    simp only [rnC, Option.map_eq_some_iff] at he
    obtain ⟨l', hl, rfl⟩ := he
    simp only [CR] at h ⊢
    obtain ⟨h0, us, e, h1⟩ := h
    refine ⟨h0, us, e, ?_⟩
    clear e h0
    induction c generalizing us l' with
    | nil => simp only [rnL, Option.some.injEq] at hl; subst hl; simp only [CRL] at h1; rw [h1.1]; exact CRL.nil
    | cons x r ihr =>
      simp only [rnL] at hl
      split at hl
      · rename_i c1 r1 e1 e2
        injection hl with hl
        subst hl
        simp only [CRL] at h1
        obtain ⟨v, vs, f1, f2, rfl, e, g1, g2⟩ := h1
        have e' := List.append_eq_nil_iff.1 e.symm
        rw [e'.1] at g1
        rw [e'.2] at g2
        exact CRL.cons (f := []) (f' := []) (ih x List.mem_cons_self c1 v [] e1 g1) (ihr (fun e he => ih e (List.mem_cons_of_mem _ he)) r1 e2 vs g2)
      · cases hl
  | h9 T l _ =>
    intro c' u fp he h
    simp only [rnC] at he
    split at he
    · rename_i hc; injection he with he; subst he; exact CR.clo_ _ _ _ (by simpa [clo] using hc) h
    · cases he
  | h8 => intro c' u fp he h; simp only [rnC, Option.some.injEq] at he; subst he; simp only [CR] at h ⊢; exact h
theorem rnL_to (hρ : ∀ i j, K i → ρ i = some j → K' j ∧ φ' j = φ i) : ∀ {l l' : List AC} {us : List Value} {fp : List Nat}, rnL ρ l = some l' → CRL w St φ K l us fp → CRL w St φ' K' l' us fp
  | [], l', us, fp, he, h => by simp only [rnL, Option.some.injEq] at he; subst he; simp only [CRL] at h ⊢; exact h
  | c :: r, l', us, fp, he, h => by
    simp only [rnL] at he
    split at he
    · rename_i c1 r1 e1 e2
      injection he with he
      subst he
      simp only [CRL] at h
      obtain ⟨v, vs, f1, f2, rfl, rfl, g1, g2⟩ := h
      exact CRL.cons (rnC_to hρ c c1 v f1 e1 g1) (rnL_to hρ e2 g2)
    · cases he
mutual
theorem rnV_to (hρ : ∀ i j, K i → ρ i = some j → K' j ∧ φ' j = φ i) : ∀ {x x' : AV} {u : Value}, rnV ρ x = some x' → VR w St φ K x u → VR w St φ' K' x' u
  | .c x, x', u, he, h => by
    simp only [rnV, Option.map_eq_some_iff] at he
    obtain ⟨c', h1, rfl⟩ := he
    simp only [VR] at h ⊢
    exact rnC_to hρ x c' u [] h1 h
  | .ag l, x', u, he, h => by
    simp only [rnV, Option.map_eq_some_iff] at he
    obtain ⟨c', h1, rfl⟩ := he
    simp only [VR] at h ⊢
    obtain ⟨us, e, h⟩ := h
    exact ⟨us, e, rnL_to hρ h1 h⟩
  | .tu l, x', u, he, h => by
    simp only [rnV, Option.map_eq_some_iff] at he
    obtain ⟨c', h1, rfl⟩ := he
    simp only [VR] at h ⊢
    obtain ⟨us, e, h⟩ := h
    exact ⟨us, e, rnVL_to hρ h1 h⟩
theorem rnVL_to (hρ : ∀ i j, K i → ρ i = some j → K' j ∧ φ' j = φ i) : ∀ {l l' : List AV} {us : List Value}, rnVL ρ l = some l' → VRL w St φ K l us → VRL w St φ' K' l' us
  | [], l', us, he, h => by simp only [rnVL, Option.some.injEq] at he; subst he; simp only [VRL] at h ⊢; exact h
  | c :: r, l', us, he, h => by
    simp only [rnVL] at he
    split at he
    · rename_i c1 r1 e1 e2
      injection he with he
      subst he
      simp only [VRL] at h ⊢
      obtain ⟨v, vs, rfl, g1, g2⟩ := h
      exact ⟨v, vs, rfl, rnV_to hρ e1 g1, rnVL_to hρ e2 g2⟩
    · cases he
end
end
section
variable {C : Ctx} {σ : AS} {a : Act} {w : World}
theorem sim_tidy (h : Sim C σ a w) (tms : List (Nat × AV)) (rows : RL) (hb : tidyB σ.gn rows = true) (ht : TmOk (ρN σ.gn rows) σ.tm tms) (hr : RwOk (ρN σ.gn rows) σ.hp rows) : Sim C ⟨tmsF tms, hpsF rows, σ.gn, rows.map (·.1), σ.L⟩ a w := by
  obtain ⟨φ, F, St, h⟩ := h
  simp only [tidyB, Bool.and_eq_true] at hb
  obtain ⟨⟨hb1, hb2⟩, hb3⟩ := hb
  have n1 := nodupB_to hb2
  have n2 := nodupB_to hb3
  have hb0 : ∀ p ∈ rows, (p.2.1 < σ.gn → p.1 = p.2.1) ∧ (σ.gn ≤ p.2.1 → σ.gn ≤ p.1) := fun p hp => by
    have := List.all_eq_true.1 hb1 p hp
    split at this
    · rename_i hl; exact ⟨fun _ => by simpa using this, fun h2 => by omega⟩
    · rename_i hl; exact ⟨fun h2 => absurd h2 hl, fun _ => by simpa using this⟩
  have old : ∀ p ∈ rows, oldN rows p.2.1 = some p.1 := fun p hp => by
    unfold oldN
    cases e : rows.find? (fun q => q.2.1 == p.2.1) with
    | none => have := List.find?_eq_none.1 e p hp; simp at this
    | some q =>
      have h1 := List.find?_some e
      have h2 := List.mem_of_find?_eq_some e
      rw [map_inj (f := fun q : Nat × Nat × Row => q.2.1) n2 h2 hp (by simpa using h1)]; rfl
  let nw : Nat → Option (Nat × Nat × Row) := fun j => rows.find? fun p => p.1 == j
  have nwp : ∀ p ∈ rows, nw p.1 = some p := fun p hp => by
    show rows.find? _ = _
    cases e : rows.find? (fun q => q.1 == p.1) with
    | none => have := List.find?_eq_none.1 e p hp; simp at this
    | some q =>
      have h1 := List.find?_some e
      have h2 := List.mem_of_find?_eq_some e
      rw [map_inj (f := fun q : Nat × Nat × Row => q.1) n1 h2 hp (by simpa using h1)]
  let φ' : Nat → Lc := fun j => if j < σ.gn then φ j else match nw j with | some p => φ p.2.1 | none => .box 0 0
  let F' : Nat → List Nat := fun j => match nw j with | some p => F p.2.1 | none => []
  have eF : ∀ p ∈ rows, F' p.1 = F p.2.1 := fun p hp => by simp only [F', nwp p hp]
  have eφ : ∀ p ∈ rows, φ' p.1 = φ p.2.1 := fun p hp => by
    simp only [φ']
    by_cases hl : p.2.1 < σ.gn
    · have := (hb0 p hp).1 hl
      rw [if_pos (by omega), this]
    · have := (hb0 p hp).2 (by omega)
      rw [if_neg (by omega), nwp p hp]
  have hρ : ∀ i j, σ.Kn i → ρN σ.gn rows i = some j → (j < σ.gn ∨ j ∈ rows.map (·.1)) ∧ φ' j = φ i := fun i j _ he => by
    unfold ρN at he
    split at he
    · rename_i hl; injection he with he; subst he; exact ⟨.inl hl, if_pos hl⟩
    · unfold oldN at he
      simp only [Option.map_eq_some_iff] at he
      obtain ⟨p, h1, rfl⟩ := he
      have h2 := List.mem_of_find?_eq_some h1
      have h3 : p.2.1 = i := by simpa using List.find?_some h1
      exact ⟨.inr (List.mem_map_of_mem h2), by rw [eφ p h2, h3]⟩
  have get : ∀ j s, hpsF rows j = some s → ∃ i r, (j, i, s) ∈ rows ∧ σ.hp i = some r ∧ ((cloL r.cs = true ∧ s = r) ∨ ∃ cs, rnL (ρN σ.gn rows) r.cs = some cs ∧ s = { r with cs := cs }) := fun j s hj => by
    obtain ⟨i, hi⟩ := hpsF_to hj
    obtain ⟨r, h1, h2⟩ := hr.at_ _ hi
    exact ⟨i, r, hi, h1, h2⟩
  have rl : ∀ {l l' : List AC}, rnL (ρN σ.gn rows) l = some l' → l'.length = l.length := by
    intro l
    induction l with
    | nil => intro l' he; simp only [rnL, Option.some.injEq] at he; subst he; rfl
    | cons c r ih =>
      intro l' he
      simp only [rnL] at he
      split at he
      · rename_i c1 r1 e1 e2; injection he with he; subst he; simp [ih e2]
      · cases he
  have len : ∀ {r s : Row}, ((cloL r.cs = true ∧ s = r) ∨ ∃ cs, rnL (ρN σ.gn rows) r.cs = some cs ∧ s = { r with cs := cs }) → s.cs.length = r.cs.length := fun {r s} hh => by
    rcases hh with ⟨_, rfl⟩ | ⟨cs, e, rfl⟩
    · rfl
    · exact rl e
  have ne : ∀ {j k i m : Nat} {s t : Row}, (j, i, s) ∈ rows → (k, m, t) ∈ rows → j ≠ k → i ≠ m := fun h1 h2 hne e => hne (by have := map_inj (f := fun q : Nat × Nat × Row => q.2.1) n2 h1 h2 e; injection this)
  refine ⟨φ', F', St, h.dfr, h.len, fun t => ?_, fun j s hj => ?_, fun j s hj => ?_, fun j k s t hj hk hjk b hb => ?_, fun j k s t b lo hj hk e => ?_, fun j k s t b lo lo' hj hk hjk e e' => ?_, fun j s b hj hb => ?_, fun j s b lo hj e => ?_, h.frm, fun j s b hj hb => ?_, fun j hj => ?_, fun j s b lo hj e hN => ?_, h.gnN, h.stS⟩
  · rcases tmsF_to ht t with e | e
    · show VR w St φ' _ (tmsF tms t) _
      rw [e]; exact undef_un _
    · exact rnV_to (K := σ.Kn) hρ e (h.tms t)
  · obtain ⟨i, r, h1, h2, h3⟩ := get j s hj
    refine ⟨.inr (List.mem_map_of_mem (f := fun q : Nat × Nat × Row => q.1) h1), ?_⟩
    have hrow := (h.row i r h2).2
    rw [eF _ h1, eφ _ h1]
    show RowOk w St φ' _ s (F i) (φ i)
    cases e : φ i with
    | box b lo =>
      rw [e] at hrow
      obtain ⟨g0, us, g1, g2⟩ := hrow
      rcases h3 with ⟨hc, rfl⟩ | ⟨cs, hc, rfl⟩
      · exact ⟨g0, us, g1.clo_ hc, g2⟩
      · exact ⟨g0, us, rnL_to (K := σ.Kn) hρ hc g1, g2⟩
    | slc u =>
      rw [e] at hrow
      obtain ⟨g0, us, fs, g1, g2, g3⟩ := hrow
      rcases h3 with ⟨hc, rfl⟩ | ⟨cs, hc, rfl⟩
      · exact ⟨g0, us, fs, g1.clo_ hc, g2, g3⟩
      · exact ⟨g0, us, fs, rnL_to (K := σ.Kn) hρ hc g1, g2, g3⟩
  · obtain ⟨i, r, h1, h2, _⟩ := get j s hj; rw [eF _ h1]; exact h.nod i r h2
  · obtain ⟨i, r, h1, h2, _⟩ := get j s hj
    obtain ⟨m, q, k1, k2, _⟩ := get k t hk
    rw [eF _ h1] at hb; rw [eF _ k1]
    exact h.dis i m r q h2 k2 (ne h1 k1 hjk) b hb
  · obtain ⟨i, r, h1, h2, _⟩ := get j s hj
    obtain ⟨m, q, k1, k2, _⟩ := get k t hk
    rw [eφ _ h1] at e; rw [eF _ k1]
    exact h.bxF i m r q b lo h2 k2 e
  · obtain ⟨i, r, h1, h2, h3⟩ := get j s hj
    obtain ⟨m, q, k1, k2, k3⟩ := get k t hk
    rw [eφ _ h1] at e; rw [eφ _ k1] at e'
    rw [len h3, len k3]
    exact h.bxd i m r q b lo lo' h2 k2 (ne h1 k1 hjk) e e'
  · obtain ⟨i, r, h1, h2, _⟩ := get j s hj; rw [eF _ h1] at hb; exact h.stF i r b h2 hb
  · obtain ⟨i, r, h1, h2, _⟩ := get j s hj; rw [eφ _ h1] at e; exact h.stB i r b lo h2 e
  · obtain ⟨i, r, h1, h2, _⟩ := get j s hj; rw [eF _ h1] at hb; exact h.own i r b h2 hb
  · have hlt : j < σ.gn := Nat.lt_of_lt_of_le hj h.gnN
    refine ⟨by show φ' j = _; simp only [φ', if_pos hlt]; exact (h.par j hj).1, fun s hs q hq => ?_⟩
    obtain ⟨i, r, h1, h2, h3⟩ := get j s hs
    have hij : i = j := by
      by_cases hl : i < σ.gn
      · exact ((hb0 _ h1).1 hl).symm
      · have := (hb0 _ h1).2 (by show σ.gn ≤ i; omega)
        have : σ.gn ≤ j := this
        omega
    subst hij
    exact (h.par i hj).2 r h2 q (by rw [← len h3]; exact hq)
  · obtain ⟨i, r, h1, h2, _⟩ := get j s hj
    rw [eφ _ h1] at e
    have : C.N ≤ i := by
      by_cases hl : i < σ.gn
      · have := (hb0 _ h1).1 hl; have : j = i := this; omega
      · have := h.gnN; omega
    exact h.new i r b lo h2 e this
variable {P : Program} {Q : Exit → AS → Prop} {c : Code}
theorem awp_tidy (tms : List (Nat × AV)) (rows : RL) (hb : tidyB σ.gn rows = true) (ht : TmOk (ρN σ.gn rows) σ.tm tms) (hr : RwOk (ρN σ.gn rows) σ.hp rows) (h : AWp P c Q ⟨tmsF tms, hpsF rows, σ.gn, rows.map (·.1), σ.L⟩) : AWp P c Q σ :=
  awp_ghost (fun _ _ _ hs => sim_tidy hs tms rows hb ht hr) h
theorem sim_absorb (h : Sim C σ a w) {i j n : Nat} {r s : Row} (hij : i ≠ j) (hr : σ.hp i = some r) (hs : σ.hp j = some s) (hsb : s.box = false) (hsn : s.n = n) {pre post : List AC} (hcs : r.cs = pre ++ .sl j n :: post) :
    Sim C { σ with hp := upd (upd σ.hp j none) i (some { r with cs := pre ++ .ow s.T n s.k s.cs :: post }) } a w := by
  obtain ⟨φ, F, St, h⟩ := h
  obtain ⟨F', h'⟩ := h.absorb hij hr hs hsb hsn hcs
  exact ⟨φ, F', St, h'⟩
theorem sim_reveal (h : Sim C σ a w) {i id n k : Nat} {T : TypeId} {l : List AC} {r : Row} (hr : σ.hp i = some r) (hg : σ.gn ≤ id) (hu : id ∉ σ.us) {pre post : List AC} (hcs : r.cs = pre ++ .ow T n k l :: post) :
    Sim C { σ with hp := upd (upd σ.hp id (some ⟨T, k, n, false, l⟩)) i (some { r with cs := pre ++ .sl id n :: post }), us := id :: σ.us } a w := by
  obtain ⟨φ, F, St, h⟩ := h
  obtain ⟨φ', F', h'⟩ := h.reveal hr hg hu hcs
  exact ⟨φ', F', St, h'⟩
theorem awp_absorb {i j n : Nat} {r s : Row} (hij : i ≠ j) (hr : σ.hp i = some r) (hs : σ.hp j = some s) (hsb : s.box = false) (hsn : s.n = n) {pre post : List AC} (hcs : r.cs = pre ++ .sl j n :: post)
    (h : AWp P c Q { σ with hp := upd (upd σ.hp j none) i (some { r with cs := pre ++ .ow s.T n s.k s.cs :: post }) }) : AWp P c Q σ := awp_ghost (fun _ _ _ h0 => sim_absorb h0 hij hr hs hsb hsn hcs) h
theorem awp_reveal {i id n k : Nat} {T : TypeId} {l : List AC} {r : Row} (hr : σ.hp i = some r) (hg : σ.gn ≤ id) (hu : id ∉ σ.us) {pre post : List AC} (hcs : r.cs = pre ++ .ow T n k l :: post)
    (h : AWp P c Q { σ with hp := upd (upd σ.hp id (some ⟨T, k, n, false, l⟩)) i (some { r with cs := pre ++ .sl id n :: post }), us := id :: σ.us }) : AWp P c Q σ := awp_ghost (fun _ _ _ h0 => sim_reveal h0 hr hg hu hcs) h
end
end Go.Proofs.Ytfnnbjkjfoiboaa
