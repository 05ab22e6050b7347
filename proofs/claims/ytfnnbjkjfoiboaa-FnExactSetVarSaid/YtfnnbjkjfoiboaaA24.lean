/- The abstract machine, twenty-four: loops by data; tidying made short. -/
import Derived.Test.YtfnnbjkjfoiboaaA23
namespace Go.Proofs.Ytfnnbjkjfoiboaa
open Go.RowKit

/-- What a state says, another says too. -/
def Gh (σ τ : AS) : Prop := ∀ C a w, Sim C σ a w → Sim C τ a w
theorem Gh.refl (σ : AS) : Gh σ σ := fun _ _ _ h => h
theorem Gh.trans {σ τ υ : AS} (h : Gh σ τ) (k : Gh τ υ) : Gh σ υ := fun C a w hs => k C a w (h C a w hs)
section
variable {P : Program} {Q : Exit → AS → Prop} {σ : AS}
theorem awp_gh {c : Code} {τ : AS} (hg : Gh σ τ) (h : AWp P c Q τ) : AWp P c Q σ := awp_ghost hg h
theorem awp_loopd {c : Code} {α : Type} (st : α → AS) (I : Nat → α → Prop) (n : Nat) (d : α) (h0 : I n d) (hg : Gh σ (st d))
    (round : ∀ n d, I n d → AWp P c (thenA (fun σ' => ∃ m d', m < n ∧ I m d' ∧ Gh σ' (st d')) Q) (st d)) : AWp P (.loop c) Q σ := by
  refine awp_gh hg ?_
  intro C a w hs b k cs
  have key : ∀ (n : Nat) (d : α) (a : Act) (w : World), I n d → Sim C (st d) a w →
      ∃ e a' w', (∃ σ', Q e σ' ∧ Sim C σ' a' w') ∧ Arrives P (lone (b.at a (.code c :: .inLoop c :: k)) cs w) b k cs e a' w' := by
    intro n
    induction n using Nat.strongRecOn with
    | _ n ih =>
      intro d a w hI hs
      obtain ⟨e, a₁, w₁, ⟨σ', h1, h2⟩, harr⟩ := round n d hI C a w hs b (.inLoop c :: k) cs
      cases e with
      | normal =>
        obtain ⟨m, d', hlt, hI', hg'⟩ := h1
        obtain ⟨e₂, a₂, w₂, hq₂, harr₂⟩ := ih m hlt d' a₁ w₁ hI' (hg' C _ _ h2)
        exact ⟨e₂, a₂, w₂, hq₂, .of_steps (Steps.trans harr (.one step_inLoop)) harr₂⟩
      | exit id => exact ⟨_, a₁, w₁, ⟨σ', h1, h2⟩, .pass (x := .inLoop c) rfl (fun _ _ => .inl (by simp)) harr⟩
      | goto l => exact ⟨_, a₁, w₁, ⟨σ', h1, h2⟩, .pass (x := .inLoop c) rfl (fun _ _ => .inl (by simp)) harr⟩
      | ret => exact ⟨_, a₁, w₁, ⟨σ', h1, h2⟩, .pass (x := .inLoop c) rfl (fun _ _ => .inl (by simp)) harr⟩
      | panic ch => exact ⟨_, a₁, w₁, ⟨σ', h1, h2⟩, .pass (x := .inLoop c) rfl (fun _ _ => .inl (by simp)) harr⟩
      | outgrown => exact ⟨_, a₁, w₁, ⟨σ', h1, h2⟩, .pass (x := .inLoop c) rfl (fun _ _ => .inl (by simp)) harr⟩
  obtain ⟨e, a', w', hq, harr⟩ := key n d a w h0 hs
  exact ⟨e, a', w', hq, .of_steps (.one step_loop) harr⟩
theorem gh_tidy {tm : Nat → AV} {hp : Nat → Option Row} {gn L : Nat} {us us' : List Nat} (tms : List (Nat × AV)) (rows : RL) (hu : rows.map (·.1) = us') (hb : tidyB gn rows = true) (ht : TmOk (ρN gn rows) tm tms) (hr : RwOk (ρN gn rows) hp rows) : Gh ⟨tm, hp, gn, us, L⟩ ⟨tmsF tms, hpsF rows, gn, us', L⟩ := by
  subst hu
  exact fun _ _ _ hs => sim_tidy hs tms rows hb ht hr
theorem hpsF_map (ren : Nat → Nat) : ∀ rows : RL, hpsF (rows.map fun p => (p.1, ren p.1, p.2.2)) = hpsF rows
  | [] => rfl
  | (j, i, s) :: l => by simp only [List.map_cons, hpsF]; rw [hpsF_map ren l]
theorem gh_ren (ren : Nat → Nat) {tm : Nat → AV} {hp : Nat → Option Row} {gn L : Nat} {us us' : List Nat} (tms : List (Nat × AV)) (rows : RL) (hu : rows.map (·.1) = us') (hb : tidyB gn (rows.map fun p => (p.1, ren p.1, p.2.2)) = true) (ht : TmOk (ρN gn (rows.map fun p => (p.1, ren p.1, p.2.2))) tm tms) (hr : RwOk (ρN gn (rows.map fun p => (p.1, ren p.1, p.2.2))) hp (rows.map fun p => (p.1, ren p.1, p.2.2))) : Gh ⟨tm, hp, gn, us, L⟩ ⟨tmsF tms, hpsF rows, gn, us', L⟩ := by
  have := gh_tidy (L := L) (us := us) tms _ rfl hb ht hr
  rw [hpsF_map] at this
  have e : (rows.map fun p => (p.1, ren p.1, p.2.2)).map (·.1) = us' := by rw [List.map_map]; exact hu
  rw [e] at this
  exact this
theorem gh_absorb {i j n : Nat} {r s : Row} (hij : i ≠ j) (hr : σ.hp i = some r) (hs : σ.hp j = some s) (hsb : s.box = false) (hsn : s.n = n) {pre post : List AC} (hcs : r.cs = pre ++ .sl j n :: post) :
    Gh σ { σ with hp := upd (upd σ.hp j none) i (some { r with cs := pre ++ .ow s.T n s.k s.cs :: post }) } := fun _ _ _ h0 => sim_absorb h0 hij hr hs hsb hsn hcs
theorem gh_reveal {i id n k : Nat} {T : TypeId} {l : List AC} {r : Row} (hr : σ.hp i = some r) (hg : σ.gn ≤ id) (hu : id ∉ σ.us) {pre post : List AC} (hcs : r.cs = pre ++ .ow T n k l :: post) :
    Gh σ { σ with hp := upd (upd σ.hp id (some ⟨T, k, n, false, l⟩)) i (some { r with cs := pre ++ .sl id n :: post }), us := id :: σ.us } := fun _ _ _ h0 => sim_reveal h0 hr hg hu hcs
end
theorem TmOk.cons {ρ : Nat → Option Nat} {tm : Nat → AV} {t : Nat} {x : AV} {l : List (Nat × AV)} (h : rnV ρ (tm t) = some x) (k : TmOk ρ tm l) : TmOk ρ tm ((t, x) :: l) := ⟨h, k⟩
theorem TmOk.nil {ρ : Nat → Option Nat} {tm : Nat → AV} : TmOk ρ tm [] := trivial
theorem RwOk.cons {ρ : Nat → Option Nat} {hp : Nat → Option Row} {j i : Nat} {s : Row} {l : RL} (h : ∃ r, hp i = some r ∧ ((cloL r.cs = true ∧ s = r) ∨ ∃ cs, rnL ρ r.cs = some cs ∧ s = { r with cs := cs })) (k : RwOk ρ hp l) : RwOk ρ hp ((j, i, s) :: l) := ⟨h, k⟩
theorem RwOk.nil {ρ : Nat → Option Nat} {hp : Nat → Option Row} : RwOk ρ hp [] := trivial
def cloV : AV → Bool
  | .c x => clo x
  | .ag l => cloL l
  | .tu _ => false
mutual
theorem rnC_id {ρ : Nat → Option Nat} : ∀ c : AC, clo c = true → rnC ρ c = some c
  | .v x, _ => rfl
  | .ro n k l, h => by simp only [clo] at h; simp [rnC, h]
  | .ow T n k l, h => by simp only [clo] at h; simp [rnC, h]
  | .sl i n, h => by simp [clo] at h
  | .pt i o, h => by simp [clo] at h
  | .rp l o, h => by simp only [clo] at h; simp [rnC, h]
  | .fn f c, h => by simp only [clo] at h; simp [rnC, rnL_id c h]
  | .bx T l, h => by simp only [clo] at h; simp [rnC, h]
  | .un, _ => rfl
theorem rnL_id {ρ : Nat → Option Nat} : ∀ l : List AC, cloL l = true → rnL ρ l = some l
  | [], _ => rfl
  | c :: r, h => by simp only [cloL, Bool.and_eq_true] at h; simp only [rnL, rnC_id c h.1, rnL_id r h.2]
end
theorem rnV_id {ρ : Nat → Option Nat} {x : AV} (h : cloV x = true) : rnV ρ x = some x := by
  cases x with
  | c x => simp only [rnV, rnC_id x h, Option.map_some]
  | ag l => simp only [rnV, rnL_id l h, Option.map_some]
  | tu l => cases h
theorem rnV_id' {ρ : Nat → Option Nat} {x y : AV} (h : x = y) (k : cloV y = true) : rnV ρ x = some y := by subst h; exact rnV_id k
theorem rn_int {ρ : Nat → Option Nat} {kd : IntKind} {z z' : Int} (h : z = z') : rnV ρ (.c (.v (.int kd z))) = some (.c (.v (.int kd z'))) := by subst h; rfl
theorem rw_same {ρ : Nat → Option Nat} {y : Option Row} {s : Row} (h : y = some s) (hc : cloL s.cs = true) : ∃ r, y = some r ∧ ((cloL r.cs = true ∧ s = r) ∨ ∃ cs, rnL ρ r.cs = some cs ∧ s = { r with cs := cs }) := ⟨s, h, .inl ⟨hc, rfl⟩⟩
theorem rw_rn' {ρ : Nat → Option Nat} {y : Option Row} {r s : Row} {cs : List AC} (h : y = some r) (hc : rnL ρ r.cs = some cs) (e : s = { r with cs := cs }) : ∃ r', y = some r' ∧ ((cloL r'.cs = true ∧ s = r') ∨ ∃ cs', rnL ρ r'.cs = some cs' ∧ s = { r' with cs := cs' }) := ⟨r, h, .inr ⟨cs, hc, e⟩⟩
theorem rw_to {ρ : Nat → Option Nat} {y : Option Row} {r s : Row} (h : y = some r) (e : r = s) (hc : cloL s.cs = true) : ∃ r, y = some r ∧ ((cloL r.cs = true ∧ s = r) ∨ ∃ cs, rnL ρ r.cs = some cs ∧ s = { r with cs := cs }) := ⟨r, h, .inl ⟨by rw [e]; exact hc, e.symm⟩⟩
theorem rw_rn {ρ : Nat → Option Nat} {y : Option Row} {r : Row} {cs : List AC} (h : y = some r) (hc : rnL ρ r.cs = some cs) : ∃ r', y = some r' ∧ ((cloL r'.cs = true ∧ ({ r with cs := cs } : Row) = r') ∨ ∃ cs', rnL ρ r'.cs = some cs' ∧ ({ r with cs := cs } : Row) = { r' with cs := cs' }) := ⟨r, h, .inr ⟨cs, hc, rfl⟩⟩
end Go.Proofs.Ytfnnbjkjfoiboaa
