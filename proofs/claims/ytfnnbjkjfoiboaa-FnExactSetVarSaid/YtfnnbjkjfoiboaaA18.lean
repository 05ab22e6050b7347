/- The abstract machine, eighteen: code; rows put into one another and taken out; states tidied. -/
import Derived.Test.YtfnnbjkjfoiboaaA17
namespace Go.Proofs.Ytfnnbjkjfoiboaa
open Go.RowKit

section
variable {P : Program} {Q : Exit → AS → Prop} {σ : AS}
theorem awp_mono {c : Code} {Q' : Exit → AS → Prop} (h : AWp P c Q σ) (hq : ∀ e σ, Q e σ → Q' e σ) : AWp P c Q' σ := fun C a w hs => wp_mono (h C a w hs) fun _ _ _ ⟨σ', h1, h2⟩ => ⟨σ', hq _ _ h1, h2⟩
theorem awp_skip (h : Q .normal σ) : AWp P .skip Q σ := fun _ _ _ hs => wp_skip ⟨σ, h, hs⟩
theorem awp_label {l : Nat} (h : Q .normal σ) : AWp P (.label l) Q σ := fun _ _ _ hs => wp_label ⟨σ, h, hs⟩
theorem awp_exit {id : Nat} (h : Q (.exit id) σ) : AWp P (.exit id) Q σ := fun _ _ _ hs => wp_exit ⟨σ, h, hs⟩
theorem awp_goto {l : Nat} (h : Q (.goto l) σ) : AWp P (.goto l) Q σ := fun _ _ _ hs => wp_goto ⟨σ, h, hs⟩
theorem awp_ret (h : Q .ret σ) : AWp P .ret Q σ := fun _ _ _ hs => wp_ret ⟨σ, h, hs⟩
def thenA (next : AS → Prop) (Q : Exit → AS → Prop) : Exit → AS → Prop
  | .normal, σ => next σ
  | e, σ => Q e σ
theorem awp_seq {x y : Code} (h : AWp P x (thenA (AWp P y Q) Q) σ) : AWp P (.seq x y) Q σ := fun C a w hs => wp_seq (wp_mono (h C a w hs) fun e a' w' ⟨σ', h1, h2⟩ => by
  cases e with
  | normal => exact h1 C a' w' h2
  | exit id => exact ⟨σ', h1, h2⟩
  | goto l => exact ⟨σ', h1, h2⟩
  | ret => exact ⟨σ', h1, h2⟩
  | panic c => exact ⟨σ', h1, h2⟩
  | outgrown => exact ⟨σ', h1, h2⟩)
theorem awp_cond {c : Operand} {x y : Code} {t : Bool} (hc : σ.ev c = .c (.v (.bool t))) (h1 : t = true → AWp P x Q σ) (h2 : t = false → AWp P y Q σ) : AWp P (.cond c x y) Q σ := fun C a w hs => by
  have hv : a.eval c = .bool t := by
    obtain ⟨φ, F, St, hs⟩ := hs
    have := hs.ev c
    rw [hc] at this
    simp only [VR, CR] at this
    exact this.1
  cases t with
  | false => exact wp_cond_false hv (h2 rfl C a w hs)
  | true => exact wp_cond_true hv (h1 rfl C a w hs)
def inBlockA (id : Nat) (Q : Exit → AS → Prop) : Exit → AS → Prop
  | .exit id', σ => if id' = id then Q .normal σ else Q (.exit id') σ
  | e, σ => Q e σ
theorem awp_block {id : Nat} {c : Code} (h : AWp P c (inBlockA id Q) σ) : AWp P (.block id c) Q σ := fun C a w hs => wp_block (wp_mono (h C a w hs) fun e a' w' ⟨σ', h1, h2⟩ => by
  cases e with
  | exit id' =>
    simp only [inBlockA, Exit.inBlock] at h1 ⊢
    split
    · rename_i e; rw [if_pos e] at h1; exact ⟨σ', h1, h2⟩
    · rename_i e; rw [if_neg e] at h1; exact ⟨σ', h1, h2⟩
  | normal => exact ⟨σ', h1, h2⟩
  | goto l => exact ⟨σ', h1, h2⟩
  | ret => exact ⟨σ', h1, h2⟩
  | panic c => exact ⟨σ', h1, h2⟩
  | outgrown => exact ⟨σ', h1, h2⟩)
theorem awp_loop {c : Code} (I : Nat → AS → Prop) (n : Nat) (h0 : I n σ) (round : ∀ n σ, I n σ → AWp P c (thenA (fun σ' => ∃ m, m < n ∧ I m σ') Q) σ) : AWp P (.loop c) Q σ := by
  intro C a w hs b k cs
  have key : ∀ (n : Nat) (σ : AS) (a : Act) (w : World), I n σ → Sim C σ a w →
      ∃ e a' w', (∃ σ', Q e σ' ∧ Sim C σ' a' w') ∧ Arrives P (lone (b.at a (.code c :: .inLoop c :: k)) cs w) b k cs e a' w' := by
    intro n
    induction n using Nat.strongRecOn with
    | _ n ih =>
      intro σ a w hI hs
      obtain ⟨e, a₁, w₁, ⟨σ', h1, h2⟩, harr⟩ := round n σ hI C a w hs b (.inLoop c :: k) cs
      cases e with
      | normal =>
        obtain ⟨m, hlt, hI'⟩ := h1
        obtain ⟨e₂, a₂, w₂, hq₂, harr₂⟩ := ih m hlt σ' a₁ w₁ hI' h2
        exact ⟨e₂, a₂, w₂, hq₂, .of_steps (Steps.trans harr (.one step_inLoop)) harr₂⟩
      | exit id => exact ⟨_, a₁, w₁, ⟨σ', h1, h2⟩, .pass (x := .inLoop c) rfl (fun _ _ => .inl (by simp)) harr⟩
      | goto l => exact ⟨_, a₁, w₁, ⟨σ', h1, h2⟩, .pass (x := .inLoop c) rfl (fun _ _ => .inl (by simp)) harr⟩
      | ret => exact ⟨_, a₁, w₁, ⟨σ', h1, h2⟩, .pass (x := .inLoop c) rfl (fun _ _ => .inl (by simp)) harr⟩
      | panic ch => exact ⟨_, a₁, w₁, ⟨σ', h1, h2⟩, .pass (x := .inLoop c) rfl (fun _ _ => .inl (by simp)) harr⟩
      | outgrown => exact ⟨_, a₁, w₁, ⟨σ', h1, h2⟩, .pass (x := .inLoop c) rfl (fun _ _ => .inl (by simp)) harr⟩
  obtain ⟨e, a', w', hq, harr⟩ := key n σ a w h0 hs
  exact ⟨e, a', w', hq, .of_steps (.one step_loop) harr⟩
theorem awp_region {id : Nat} {ops : Array Oper} {dr : Bool} (hm : dr = true → P.follows .mixedOrders = true ∧ backB .any ops = true)
    (h : ∀ C, Walk P ops (fun e a w => ∃ σ', Q e σ' ∧ Sim C σ' a w) C dr [] (List.range ops.size) σ) : AWp P (.region id ops dr) Q σ := fun C _ _ hs => region_wp hm (h C) hs
theorem walk_end {ops : Array Oper} {C : Ctx} {dr : Bool} {H : List (Nat × Oper × Inf)} (h : Q .normal σ) : Walk P ops (fun e a w => ∃ σ', Q e σ' ∧ Sim C σ' a w) C dr H [] σ := fun _ _ hs => ⟨σ, h, hs⟩
theorem awp_ghost {c : Code} {σ' : AS} (hg : ∀ C a w, Sim C σ a w → Sim C σ' a w) (h : AWp P c Q σ') : AWp P c Q σ := fun C a w hs => h C a w (hg C a w hs)
end
section
variable {C : Ctx} {φ : Nat → Lc} {F : Nat → List Nat} {St : Nat → Prop} {σ : AS} {a : Act} {w : World}
/-- A row behind a slice goes into the row that holds the slice. -/
theorem SimF.absorb (h : SimF C φ F St σ a w) {i j n : Nat} {r s : Row} (hij : i ≠ j) (hr : σ.hp i = some r) (hs : σ.hp j = some s) (hsb : s.box = false) (hsn : s.n = n) {pre post : List AC} (hcs : r.cs = pre ++ .sl j n :: post) :
    ∃ F', SimF C φ F' St { σ with hp := upd (upd σ.hp j none) i (some { r with cs := pre ++ .ow s.T n s.k s.cs :: post }) } a w := by
  have key : ∀ (us : List Value) (fp : List Nat), CRL w St φ σ.Kn r.cs us fp → (∀ b ∈ fp, b ∈ F i) → fp.Nodup → ∃ fp', CRL w St φ σ.Kn (pre ++ .ow s.T n s.k s.cs :: post) us fp' ∧ (∀ b, b ∈ fp' ↔ b ∈ fp ∨ b ∈ F j) ∧ fp'.Nodup := by
    intro us fp hc hsub hnd
    rw [hcs] at hc
    obtain ⟨u1, u2, f1, f2, rfl, rfl, g1, g2⟩ := hc.split
    simp only [CRL] at g2
    obtain ⟨u, u3, f3, f4, rfl, rfl, g3, g4⟩ := g2
    simp only [CR] at g3
    obtain ⟨rfl, _, e, A, c, rfl⟩ := g3
    have hrow := (h.row j s hs).2
    rw [e] at hrow
    obtain ⟨_, vs, fs, q1, q2, q3⟩ := hrow
    have hn2 := h.nod j s hs
    have hd : ∀ b ∈ F j, b ∉ f1 ++ ([] ++ f4) := fun b hb hm => h.dis i j r s hr hs hij b (hsub b hm) hb
    simp only [List.nil_append] at hd hnd ⊢
    refine ⟨f1 ++ (F j ++ f4), g1.app (CRL.cons (by simp only [CR]; subst hsn; exact ⟨vs, fs, q1, q2, q3⟩) g4), fun b => by simp only [List.mem_append]; exact ⟨fun h => h.elim (fun h => .inl (.inl h)) fun h => h.elim .inr fun h => .inl (.inr h), fun h => h.elim (fun h => h.elim .inl fun h => .inr (.inr h)) fun h => .inr (.inl h)⟩, ?_⟩
    have h3 := List.nodup_append.1 hnd
    refine List.nodup_append.2 ⟨h3.1, List.nodup_append.2 ⟨hn2, h3.2.1, fun p hp q hq e => hd p hp (List.mem_append_right _ (e ▸ hq))⟩, fun p hp q hq e => ?_⟩
    rcases List.mem_append.1 hq with hq | hq
    · exact hd q hq (List.mem_append_left _ (e ▸ hp))
    · exact h3.2.2 p hp q hq e
  have hrow := (h.row i r hr).2
  have hnd := h.nod i r hr
  obtain ⟨X, x1, x2, x3⟩ : ∃ X, RowOk w St φ σ.Kn { r with cs := pre ++ .ow s.T n s.k s.cs :: post } X (φ i) ∧ (∀ b, b ∈ X ↔ b ∈ F i ∨ b ∈ F j) ∧ X.Nodup := by
    cases e : φ i with
    | box b lo =>
      rw [e] at hrow
      obtain ⟨hb, us, g1, g2⟩ := hrow
      obtain ⟨fp', k1, k2, k3⟩ := key us (F i) g1 (fun b hb => hb) hnd
      exact ⟨fp', ⟨hb, us, k1, g2⟩, k2, k3⟩
    | slc u =>
      rw [e] at hrow
      obtain ⟨hb, us, fs, g1, g2, g3⟩ := hrow
      rw [g3] at hnd
      have hn3 := List.nodup_append.1 hnd
      obtain ⟨fp', k1, k2, k3⟩ := key us fs g1 (fun b hb => by rw [g3]; exact List.mem_append_right _ hb) hn3.2.1
      refine ⟨obl u ++ fp', ⟨hb, us, fp', k1, g2, rfl⟩, fun b => by rw [g3]; simp only [List.mem_append, k2, or_assoc], List.nodup_append.2 ⟨hn3.1, k3, fun p hp q hq e => ?_⟩⟩
      rcases (k2 q).1 hq with hq | hq
      · exact hn3.2.2 p hp q hq e
      · exact h.dis i j r s hr hs hij q (by rw [g3]; exact List.mem_append_left _ (e ▸ hp)) hq
  have hlen : (pre ++ .ow s.T n s.k s.cs :: post).length = r.cs.length := by rw [hcs]; simp
  have old : ∀ k t, upd (upd σ.hp j none) i (some { r with cs := pre ++ .ow s.T n s.k s.cs :: post }) k = some t → (k = i ∧ t = { r with cs := pre ++ .ow s.T n s.k s.cs :: post }) ∨ (k ≠ i ∧ k ≠ j ∧ σ.hp k = some t) := fun k t hk => by
    by_cases e : k = i
    · subst e; rw [upd_same] at hk; injection hk with hk; exact .inl ⟨rfl, hk.symm⟩
    · rw [upd_ne _ _ e] at hk
      by_cases e2 : k = j
      · subst e2; rw [upd_same] at hk; cases hk
      · rw [upd_ne _ _ e2] at hk; exact .inr ⟨e, e2, hk⟩
  have fi : upd F i X i = X := upd_same _ _ _
  have fk : ∀ k, k ≠ i → upd F i X k = F k := fun k hk => upd_ne _ _ hk
  have get : ∀ k t, upd (upd σ.hp j none) i (some { r with cs := pre ++ .ow s.T n s.k s.cs :: post }) k = some t → ∃ t', σ.hp k = some t' ∧ t.cs.length = t'.cs.length ∧ ∀ b, b ∈ upd F i X k → b ∈ F k ∨ (k = i ∧ b ∈ F j) := fun k t hk => by
    rcases old k t hk with ⟨rfl, rfl⟩ | ⟨e1, e2, e3⟩
    · exact ⟨r, hr, hlen, fun b hb => by rw [fi] at hb; exact ((x2 b).1 hb).imp (fun q => q) fun q => ⟨rfl, q⟩⟩
    · exact ⟨t, e3, rfl, fun b hb => by rw [fk k e1] at hb; exact .inl hb⟩
  refine ⟨upd F i X, h.dfr, h.len, h.tms, fun k t hk => ?_, fun k t hk => ?_, fun k m t v hk hm hkm b hb => ?_, fun k m t v b lo hk hm e => ?_, fun k m t v b lo lo' hk hm hkm e e' => ?_, fun k t b hk hb => ?_, fun k t b lo hk e => ?_, h.frm, fun k t b hk hb => ?_, fun k hk => ⟨(h.par k hk).1, fun t ht q hq => ?_⟩, fun k t b lo hk e hN => ?_, h.gnN, h.stS⟩
  · rcases old k t hk with ⟨rfl, rfl⟩ | ⟨e1, e2, e3⟩
    · rw [fi]; exact ⟨(h.row k r hr).1, x1⟩
    · rw [fk k e1]; exact h.row k t e3
  · rcases old k t hk with ⟨rfl, rfl⟩ | ⟨e1, e2, e3⟩
    · rw [fi]; exact x3
    · rw [fk k e1]; exact h.nod k t e3
  · obtain ⟨t', k1, _, k3⟩ := get k t hk
    obtain ⟨v', m1, _, m3⟩ := get m v hm
    have kj : k ≠ j := by
      rcases old k t hk with ⟨rfl, _⟩ | ⟨_, e2, _⟩
      · exact hij
      · exact e2
    have mj : m ≠ j := by
      rcases old m v hm with ⟨rfl, _⟩ | ⟨_, e2, _⟩
      · exact hij
      · exact e2
    intro hb'
    rcases k3 b hb with c1 | ⟨e1, c1⟩ <;> rcases m3 b hb' with c2 | ⟨e2, c2⟩
    · exact h.dis k m t' v' k1 m1 hkm b c1 c2
    · exact h.dis k j t' s k1 hs kj b c1 c2
    · exact h.dis j m s v' hs m1 (Ne.symm mj) b c1 c2
    · exact hkm (e1.trans e2.symm)
  · obtain ⟨t', k1, _, _⟩ := get k t hk
    obtain ⟨v', m1, _, m3⟩ := get m v hm
    intro hb
    rcases m3 b hb with c1 | ⟨_, c1⟩
    · exact h.bxF k m t' v' b lo k1 m1 e c1
    · exact h.bxF k j t' s b lo k1 hs e c1
  · obtain ⟨t', k1, k2, _⟩ := get k t hk
    obtain ⟨v', m1, m2, _⟩ := get m v hm
    rw [k2, m2]
    exact h.bxd k m t' v' b lo lo' k1 m1 hkm e e'
  · obtain ⟨t', k1, _, k3⟩ := get k t hk
    rcases k3 b hb with c1 | ⟨_, c1⟩
    · exact h.stF k t' b k1 c1
    · exact h.stF j s b hs c1
  · obtain ⟨t', k1, _, _⟩ := get k t hk; exact h.stB k t' b lo k1 e
  · obtain ⟨t', k1, _, k3⟩ := get k t hk
    rcases k3 b hb with c1 | ⟨_, c1⟩
    · exact h.own k t' b k1 c1
    · exact h.own j s b hs c1
  · obtain ⟨t', k1, k2, _⟩ := get k t ht
    exact (h.par k hk).2 t' k1 q (by rw [← k2]; exact hq)
  · obtain ⟨t', k1, _, _⟩ := get k t hk; exact h.new k t' b lo k1 e hN
/-- A row that lies in a row is taken out. -/
theorem SimF.reveal (h : SimF C φ F St σ a w) {i id n k : Nat} {T : TypeId} {l : List AC} {r : Row} (hr : σ.hp i = some r) (hg : σ.gn ≤ id) (hu : id ∉ σ.us) {pre post : List AC} (hcs : r.cs = pre ++ .ow T n k l :: post) :
    ∃ φ' F', SimF C φ' F' St { σ with hp := upd (upd σ.hp id (some ⟨T, k, n, false, l⟩)) i (some { r with cs := pre ++ .sl id n :: post }), us := id :: σ.us } a w := by
  have hnk : ¬ σ.Kn id := fun hk => hk.elim (fun h1 => absurd h1 (by omega)) hu
  have hid : i ≠ id := by rintro rfl; exact hnk (h.row i r hr).1
  have hK : ∀ (L : Lc) j, σ.Kn j → (j < σ.gn ∨ j ∈ id :: σ.us) ∧ upd φ id L j = φ j := fun L j hj => ⟨hj.imp (fun q => q) (List.mem_cons_of_mem _), upd_ne _ _ (by rintro rfl; exact hnk hj)⟩
  have hS : ∀ b, St b → b < w.heap.size → St b ∧ w.heap[b]? = w.heap[b]? := fun b hb _ => ⟨hb, rfl⟩
  have key : ∀ (us : List Value) (fp : List Nat), CRL w St φ σ.Kn r.cs us fp → fp.Nodup → ∃ fp' u vs fs, (∀ L, L = Lc.slc u → CRL w St (upd φ id L) (fun j => j < σ.gn ∨ j ∈ id :: σ.us) (pre ++ .sl id n :: post) us fp') ∧ CRL w St φ σ.Kn l vs fs ∧ w.ownsRow 0 T k u n vs ∧ (∀ b, b ∈ fp ↔ b ∈ fp' ∨ b ∈ obl u ++ fs) ∧ fp'.Nodup ∧ (obl u ++ fs).Nodup ∧ ∀ b ∈ fp', b ∉ obl u ++ fs := by
    intro us fp hc hnd
    rw [hcs] at hc
    obtain ⟨u1, u2, f1, f2, rfl, rfl, g1, g2⟩ := hc.split
    simp only [CRL] at g2
    obtain ⟨u, u3, f3, f4, rfl, rfl, g3, g4⟩ := g2
    simp only [CR] at g3
    obtain ⟨vs, fs, q1, q2, rfl⟩ := g3
    have h3 := List.nodup_append.1 hnd
    have h4 := List.nodup_append.1 h3.2.1
    refine ⟨f1 ++ f4, u, vs, fs, fun L hL => ?_, q1, q2, fun b => by simp only [List.mem_append]; exact ⟨fun h => h.elim (fun h => .inl (.inl h)) fun h => h.elim .inr fun h => .inl (.inr h), fun h => h.elim (fun h => h.elim .inl fun h => .inr (.inr h)) fun h => .inr (.inl h)⟩, List.nodup_append.2 ⟨h3.1, h4.2.1, fun p hp q hq e => h3.2.2 p hp q (List.mem_append_right _ hq) e⟩, h4.1, fun b hb hm => ?_⟩
    · have := (g1.mono hS (Nat.le_refl _) (hK L) (fun _ _ => rfl)).app (CRL.cons (c := .sl id n) (u := u) (f := []) (by
        subst hL
        simp only [CR]
        refine ⟨trivial, .inr List.mem_cons_self, by rw [upd_same], ?_⟩
        obtain ⟨_, ⟨rfl, rfl⟩ | ⟨g, cap, cur, rfl, _⟩⟩ := q2
        · exact ⟨none, 0, rfl⟩
        · exact ⟨_, cap, rfl⟩) (g4.mono hS (Nat.le_refl _) (hK L) (fun _ _ => rfl)))
      exact this
    · rcases List.mem_append.1 hb with hb | hb
      · exact h3.2.2 b hb b (List.mem_append_left _ hm) rfl
      · exact h4.2.2 b hm b hb rfl
  have hrow := (h.row i r hr).2
  have hnd := h.nod i r hr
  obtain ⟨X, Y, u, x1, x2, x3, x4, x5, x6⟩ : ∃ X Y u, (∀ L, L = Lc.slc u → RowOk w St (upd φ id L) (fun j => j < σ.gn ∨ j ∈ id :: σ.us) { r with cs := pre ++ .sl id n :: post } X (φ i)) ∧ RowOk w St φ σ.Kn ⟨T, k, n, false, l⟩ Y (.slc u) ∧ (∀ b, b ∈ F i ↔ b ∈ X ∨ b ∈ Y) ∧ X.Nodup ∧ Y.Nodup ∧ ∀ b ∈ X, b ∉ Y := by
    cases e : φ i with
    | box b lo =>
      rw [e] at hrow
      obtain ⟨hb, us, g1, g2⟩ := hrow
      obtain ⟨fp', u, vs, fs, k1, k2, k3, k4, k5, k6, k7⟩ := key us (F i) g1 hnd
      exact ⟨fp', obl u ++ fs, u, fun L hL => ⟨hb, us, k1 L hL, g2⟩, ⟨rfl, vs, fs, k2, k3, rfl⟩, k4, k5, k6, k7⟩
    | slc v =>
      rw [e] at hrow
      obtain ⟨hb, us, fs0, g1, g2, g3⟩ := hrow
      rw [g3] at hnd
      have hn3 := List.nodup_append.1 hnd
      obtain ⟨fp', u, vs, fs, k1, k2, k3, k4, k5, k6, k7⟩ := key us fs0 g1 hn3.2.1
      refine ⟨obl v ++ fp', obl u ++ fs, u, fun L hL => ⟨hb, us, fp', k1 L hL, g2, rfl⟩, ⟨rfl, vs, fs, k2, k3, rfl⟩, fun b => by rw [g3, List.mem_append, List.mem_append, k4, or_assoc], List.nodup_append.2 ⟨hn3.1, k5, fun p hp q hq e => hn3.2.2 p hp q ((k4 q).2 (.inl hq)) e⟩, k6, fun b hb hm => ?_⟩
      rcases List.mem_append.1 hb with hb | hb
      · exact hn3.2.2 b hb b ((k4 b).2 (.inr hm)) rfl
      · exact k7 b hb hm
  have hlen : (pre ++ AC.sl id n :: post).length = r.cs.length := by rw [hcs]; simp
  have old : ∀ m t, upd (upd σ.hp id (some ⟨T, k, n, false, l⟩)) i (some { r with cs := pre ++ .sl id n :: post }) m = some t → (m = i ∧ t = { r with cs := pre ++ .sl id n :: post }) ∨ (m = id ∧ t = ⟨T, k, n, false, l⟩) ∨ (m ≠ i ∧ m ≠ id ∧ σ.hp m = some t) := fun m t hm => by
    by_cases e : m = i
    · subst e; rw [upd_same] at hm; injection hm with hm; exact .inl ⟨rfl, hm.symm⟩
    · rw [upd_ne _ _ e] at hm
      by_cases e2 : m = id
      · subst e2; rw [upd_same] at hm; injection hm with hm; exact .inr (.inl ⟨rfl, hm.symm⟩)
      · rw [upd_ne _ _ e2] at hm; exact .inr (.inr ⟨e, e2, hm⟩)
  have fi : upd (upd F id Y) i X i = X := upd_same _ _ _
  have fid : upd (upd F id Y) i X id = Y := by rw [upd_ne _ _ (Ne.symm hid), upd_same]
  have fk : ∀ m, m ≠ i → m ≠ id → upd (upd F id Y) i X m = F m := fun m h1 h2 => by rw [upd_ne _ _ h1, upd_ne _ _ h2]
  have φi : ∀ L, upd φ id L i = φ i := fun L => upd_ne _ _ hid
  -- each row of after stands for a row of before: its blocks are among that one's
  have get : ∀ m t, upd (upd σ.hp id (some ⟨T, k, n, false, l⟩)) i (some { r with cs := pre ++ .sl id n :: post }) m = some t → ∃ m' t', σ.hp m' = some t' ∧ (∀ b ∈ upd (upd F id Y) i X m, b ∈ F m') ∧ ((m = id ∧ m' = i) ∨ (m ≠ id ∧ m' = m ∧ t.cs.length = t'.cs.length)) := fun m t hm => by
    rcases old m t hm with ⟨rfl, rfl⟩ | ⟨rfl, rfl⟩ | ⟨e1, e2, e3⟩
    · exact ⟨m, r, hr, fun b hb => by rw [fi] at hb; exact (x3 b).2 (.inl hb), .inr ⟨hid, rfl, hlen⟩⟩
    · exact ⟨i, r, hr, fun b hb => by rw [fid] at hb; exact (x3 b).2 (.inr hb), .inl ⟨rfl, rfl⟩⟩
    · exact ⟨m, t, e3, fun b hb => by rw [fk m e1 e2] at hb; exact hb, .inr ⟨e2, rfl, rfl⟩⟩
  have bxo : ∀ m t b lo, upd (upd σ.hp id (some ⟨T, k, n, false, l⟩)) i (some { r with cs := pre ++ .sl id n :: post }) m = some t → upd φ id (.slc u) m = .box b lo → m ≠ id ∧ φ m = .box b lo := fun m t b lo _ e => by
    by_cases e2 : m = id
    · subst e2; rw [upd_same] at e; cases e
    · rw [upd_ne _ _ e2] at e; exact ⟨e2, e⟩
  refine ⟨upd φ id (.slc u), upd (upd F id Y) i X, h.dfr, h.len, fun t => VR.mono hS (Nat.le_refl _) (hK _) _ _ (h.tms t), fun m t hm => ?_, fun m t hm => ?_, fun m q t v hm hq hmq b hb => ?_, fun m q t v b lo hm hq e => ?_, fun m q t v b lo lo' hm hq hmq e e' => ?_, fun m t b hm hb => ?_, fun m t b lo hm e => ?_, h.frm, fun m t b hm hb => ?_, fun m hm => ?_, fun m t b lo hm e hN => ?_, h.gnN, h.stS⟩
  · rcases old m t hm with ⟨rfl, rfl⟩ | ⟨rfl, rfl⟩ | ⟨e1, e2, e3⟩
    · rw [fi, φi]; exact ⟨(hK (.slc u) m (h.row m r hr).1).1, x1 _ rfl⟩
    · rw [fid, upd_same]
      exact ⟨.inr List.mem_cons_self, x2.mono hS (Nat.le_refl _) (hK _) (fun _ _ => rfl) (fun _ _ _ _ _ hB => hB)⟩
    · rw [fk m e1 e2, upd_ne _ _ e2]
      exact ⟨(hK (.slc u) m (h.row m t e3).1).1, (h.row m t e3).2.mono hS (Nat.le_refl _) (hK _) (fun _ _ => rfl) (fun _ _ _ _ _ hB => hB)⟩
  · rcases old m t hm with ⟨rfl, rfl⟩ | ⟨rfl, rfl⟩ | ⟨e1, e2, e3⟩
    · rw [fi]; exact x4
    · rw [fid]; exact x5
    · rw [fk m e1 e2]; exact h.nod m t e3
  · intro hb'
    rcases old m t hm with ⟨rfl, rfl⟩ | ⟨rfl, rfl⟩ | ⟨e1, e2, e3⟩ <;> rcases old q v hq with ⟨rfl, rfl⟩ | ⟨rfl, rfl⟩ | ⟨d1, d2, d3⟩
    · exact hmq rfl
    · rw [fi] at hb; rw [fid] at hb'; exact x6 b hb hb'
    · rw [fi] at hb; rw [fk q d1 d2] at hb'; exact h.dis m q r v hr d3 hmq b ((x3 b).2 (.inl hb)) hb'
    · rw [fid] at hb; rw [fi] at hb'; exact x6 b hb' hb
    · exact hmq rfl
    · rw [fid] at hb; rw [fk q d1 d2] at hb'; exact h.dis i q r v hr d3 (Ne.symm d1) b ((x3 b).2 (.inr hb)) hb'
    · rw [fk m e1 e2] at hb; rw [fi] at hb'; exact h.dis m q t r e3 hr hmq b hb ((x3 b).2 (.inl hb'))
    · rw [fk m e1 e2] at hb; rw [fid] at hb'; exact h.dis m i t r e3 hr e1 b hb ((x3 b).2 (.inr hb'))
    · rw [fk m e1 e2] at hb; rw [fk q d1 d2] at hb'; exact h.dis m q t v e3 d3 hmq b hb hb'
  · obtain ⟨m1, m2⟩ := bxo m t b lo hm e
    obtain ⟨m', t', g1, g2, g3⟩ := get m t hm
    obtain ⟨q', v', p1, p2, p3⟩ := get q v hq
    rcases g3 with ⟨e1, _⟩ | ⟨_, rfl, _⟩
    · exact absurd e1 m1
    · exact fun hb => h.bxF m' q' t' v' b lo g1 p1 m2 (p2 b hb)
  · obtain ⟨m1, m2⟩ := bxo m t b lo hm e
    obtain ⟨q1, q2⟩ := bxo q v b lo' hq e'
    obtain ⟨m', t', g1, g2, g3⟩ := get m t hm
    obtain ⟨q', v', p1, p2, p3⟩ := get q v hq
    rcases g3 with ⟨e1, _⟩ | ⟨_, rfl, g4⟩
    · exact absurd e1 m1
    · rcases p3 with ⟨e1, _⟩ | ⟨_, rfl, p4⟩
      · exact absurd e1 q1
      · rw [g4, p4]; exact h.bxd m' q' t' v' b lo lo' g1 p1 hmq m2 q2
  · obtain ⟨m', t', g1, g2, _⟩ := get m t hm; exact h.stF m' t' b g1 (g2 b hb)
  · obtain ⟨m1, m2⟩ := bxo m t b lo hm e
    obtain ⟨m', t', g1, g2, g3⟩ := get m t hm
    rcases g3 with ⟨e1, _⟩ | ⟨_, rfl, g4⟩
    · exact absurd e1 m1
    · exact h.stB m' t' b lo g1 m2
  · obtain ⟨m', t', g1, g2, _⟩ := get m t hm; exact h.own m' t' b g1 (g2 b hb)
  · have hmid : m ≠ id := by have := h.gnN; omega
    rw [upd_ne _ _ hmid]
    refine ⟨(h.par m hm).1, fun t ht q hq => ?_⟩
    obtain ⟨m', t', g1, g2, g3⟩ := get m t ht
    rcases g3 with ⟨e1, _⟩ | ⟨_, rfl, g4⟩
    · exact absurd e1 hmid
    · exact (h.par m' hm).2 t' g1 q (by rw [← g4]; exact hq)
  · obtain ⟨m1, m2⟩ := bxo m t b lo hm e
    obtain ⟨m', t', g1, g2, g3⟩ := get m t hm
    rcases g3 with ⟨e1, _⟩ | ⟨_, rfl, g4⟩
    · exact absurd e1 m1
    · exact h.new m' t' b lo g1 m2 hN
end
end Go.Proofs.Ytfnnbjkjfoiboaa
