/- The abstract machine, six: new variables, new slices, append. -/
import Derived.Test.YtfnnbjkjfoiboaaA5
namespace Go.Proofs.Ytfnnbjkjfoiboaa
open Go.RowKit

def PostS (C : Ctx) (σ : AS) (a : Act) (x : AV) (v : Value) (w : World) : Prop := ∃ φ F St, SimF C φ F St σ a w ∧ VR w St φ σ.Kn x v
section
variable {P : Program} {C : Ctx} {φ : Nat → Lc} {F : Nat → List Nat} {St : Nat → Prop} {σ : AS} {a : Act} {w : World}
/-- A new variable. -/
theorem SimF.newBox (h : SimF C φ F St σ a w) {id : Nat} (hg : σ.gn ≤ id) (hu : id ∉ σ.us) {cs : List AC} {us : List Value} (hc : CRL w St φ σ.Kn cs us []) (T : TypeId) :
    PostS C { σ with hp := upd σ.hp id (some ⟨T, 0, 0, true, cs⟩), us := id :: σ.us } a (.c (.pt id 0)) (.pointer (some ⟨w.heap.size, 0, none⟩)) (w.alloc (.cells us.toArray T)) := by
  have h' := h.newRow hg hu (b0 := none) (Stp.alloc w (.cells us.toArray T) none) (fun b hb => by cases hb) (r := ⟨T, 0, 0, true, cs⟩) (L := .box w.heap.size 0) (fp := []) (fun St' φ' hS hK => ⟨rfl, us, hc.mono hS (by simp) (fun j hj => ⟨hj.imp (fun q => q) (List.mem_cons_of_mem _), hK j hj⟩) (fun b hb => absurd hb List.not_mem_nil), us.toArray, T, heap_alloc_new w _, fun j x hx => by simpa using hx⟩) (by simp) (fun b hb => absurd hb List.not_mem_nil) (fun b lo e => by injection e with e e2; subst e; exact ⟨Nat.le_refl _, List.not_mem_nil⟩)
  exact ⟨_, _, _, h', by simp only [VR, CR]; exact ⟨trivial, .inr List.mem_cons_self, .inl ⟨w.heap.size, 0, by rw [upd_same], rfl⟩⟩⟩
/-- A row behind a slice (fresh, or made of what was given up). -/
theorem SimF.newSlice (h : SimF C φ F St σ a w) {id : Nat} (hg : σ.gn ≤ id) (hu : id ∉ σ.us) {w' : World} {b0 : Option Nat} (hs : Stp b0 w w') (hb0 : ∀ b, b0 = some b → Free C φ F St σ b) {cs : List AC} {us : List Value} {fs : List Nat} (hc : CRL w St φ σ.Kn cs us fs) (hfs : ∀ b ∈ fs, some b ≠ b0)
    {T : TypeId} {k n : Nat} {u : Value} (hown : w'.ownsRow 0 T k u n us) (hnd : (obl u ++ fs).Nodup) (hfp : ∀ b ∈ obl u ++ fs, w.heap.size ≤ b ∨ Free C φ F St σ b) :
    PostS C { σ with hp := upd σ.hp id (some ⟨T, k, n, false, cs⟩), us := id :: σ.us } a (.c (.sl id n)) u w' := by
  have h' := h.newRow hg hu hs hb0 (r := ⟨T, k, n, false, cs⟩) (L := .slc u) (fp := obl u ++ fs) (fun St' φ' hS hK => ⟨rfl, us, fs, hc.mono hS hs.size (fun j hj => ⟨hj.imp (fun q => q) (List.mem_cons_of_mem _), hK j hj⟩) (fun b hb => hs.blk b (hc.lt b hb) (hfs b hb)), hown, rfl⟩) hnd hfp (fun b lo e => by cases e)
  refine ⟨_, _, _, h', ?_⟩
  simp only [VR, CR]
  refine ⟨trivial, .inr List.mem_cons_self, by rw [upd_same], ?_⟩
  obtain ⟨_, ⟨rfl, rfl⟩ | ⟨g, cap, cur, rfl, _⟩⟩ := hown
  · exact ⟨none, 0, rfl⟩
  · exact ⟨_, cap, rfl⟩
end
/-- What append takes its cells from. -/
def srcOf (hp : Nat → Option Row) (k : Nat) : AV → Option (Nat × List AC)
  | .c (.sl j m) => (hp j).bind fun s => if s.k = k ∧ s.n = m ∧ s.box = false then some (m, s.cs.map ld) else none
  | .c (.ro m k' l) => if k' = k then some (m, l) else none
  | .c (.v (.slice none 0 0)) => some (0, [])
  | .c (.v (.string s)) => if k = 1 then some (s.size, s.data.toList.map fun b => .v (.int .u8 b.toNat)) else none
  | _ => none
def noUn : AC → Bool
  | .un => false
  | _ => true
section
variable {P : Program} {C : Ctx} {φ : Nat → Lc} {F : Nat → List Nat} {St : Nat → Prop} {σ : AS} {a : Act} {w : World}
theorem CRL.one {K : Nat → Prop} : ∀ {l : List AC} {us : List Value} {fp : List Nat}, CRL w St φ K l us fp → l.all noUn = true → ∀ u ∈ us, u.oneCell' = true
  | [], us, fp, h, _ => by simp only [CRL] at h; rw [h.1]; simp
  | c :: r, us, fp, h, hn => by
    simp only [CRL] at h
    obtain ⟨u, us', f1, f2, rfl, rfl, h1, h2⟩ := h
    simp only [List.all_cons, Bool.and_eq_true] at hn
    intro v hv
    rcases List.mem_cons.1 hv with rfl | hv
    · exact CR.one (by rintro rfl; simp [noUn] at hn) h1
    · exact CRL.one h2 hn.2 v hv
theorem lenOf_slice (A : Option Addr) (n c : Nat) (W : World) : (Builtin.lenOf (.slice A n c)).run P W = .ok n W := rfl
/-- The source's cells, in every world with this heap. -/
theorem src_run (h : SimF C φ F St σ a w) {k m : Nat} {x : AV} {u : Value} {cs : List AC} (hk : 0 < k) (hx : VR w St φ σ.Kn x u) (hs : srcOf σ.hp k x = some (m, cs)) :
    ∃ us, CRL w St φ σ.Kn cs us [] ∧ us.length = m * k ∧ (∀ W : World, (Builtin.lenOf u).run P W = .ok m W) ∧ (∀ W : World, W.heap = w.heap → (Builtin.firstCells k m u).run P W = .ok us.toArray W) := by
  unfold srcOf at hs
  split at hs
  · rename_i j m'
    simp only [Option.bind_eq_some_iff] at hs
    obtain ⟨s, hj, hs⟩ := hs
    split at hs
    · rename_i hc
      obtain ⟨rfl, rfl, hbx⟩ := hc
      injection hs with hs
      injection hs with e1 e2
      subst e1 e2
      simp only [VR, CR] at hx
      obtain ⟨_, _, e, A, c, rfl⟩ := hx
      have h1 := (h.row j s hj).2
      rw [e] at h1
      obtain ⟨_, us, fs, h2, h3, _⟩ := h1
      refine ⟨us, ld_CRL h2, h3.1, fun W => rfl, fun W hW => ?_⟩
      rcases A with _ | ad
      · have hn : s.n = 0 := by
          rcases h3.2 with ⟨hv, hn⟩ | ⟨g, cap, cur, hv, _⟩
          · exact hn
          · cases hv
        have : us = [] := List.eq_nil_of_length_eq_zero (by rw [h3.1, hn, Nat.zero_mul])
        subst this
        rfl
      · refine run_firstCells_some (P := P) W s.k s.n ad s.n c us h3.1 fun i y hy => ?_
        rcases h3.2 with ⟨hv, hn⟩ | ⟨g, cap, cur, hv, _⟩
        · cases hv
        · injection hv with hv
          injection hv with hv
          subst hv
          have := h3.cells (g := g) rfl i y hy
          simpa [World.cell?, hW] using this
    · cases hs
  · rename_i m' k' l
    split at hs
    · rename_i hc
      subst hc
      injection hs with hs
      injection hs with e1 e2
      subst e1 e2
      simp only [VR, CR] at hx
      obtain ⟨_, A, c, rfl, _, hl, hcell⟩ := hx
      rcases Nat.eq_zero_or_pos m' with h0 | h0
      · subst h0
        rw [Nat.zero_mul] at hl
        obtain rfl := List.eq_nil_of_length_eq_zero hl
        refine ⟨[], CRL.nil, by simp, fun W => rfl, fun W _ => ?_⟩
        rcases A with _ | ad
        · rfl
        · exact run_firstCells_some (P := P) W k' 0 ad 0 c [] (by simp) (by simp)
      · obtain ⟨b, o, us, rfl, _, _, h2, h3⟩ := hcell h0
        refine ⟨us, h3, by rw [h3.len, hl], fun W => rfl, fun W hW => ?_⟩
        refine run_firstCells_some (P := P) W k' m' _ m' c us (by rw [h3.len, hl]) fun i y hy => ?_
        have := h2 i y hy
        rw [Addr.add_lit]
        simpa [World.cell?, hW] using this
    · cases hs
  · injection hs with hs
    injection hs with e1 e2
    subst e1 e2
    simp only [VR, CR] at hx
    obtain ⟨rfl, _⟩ := hx
    exact ⟨[], CRL.nil, by simp, fun W => rfl, fun W _ => rfl⟩
  · rename_i s
    split at hs
    · rename_i hc
      subst hc
      injection hs with hs
      injection hs with e1 e2
      subst e1 e2
      simp only [VR, CR] at hx
      obtain ⟨rfl, _⟩ := hx
      have hlist : ∀ l : List UInt8, CRL w St φ σ.Kn (l.map fun b => AC.v (.int .u8 b.toNat)) (l.map fun b => Value.int .u8 b.toNat) [] := by
        intro l
        induction l with
        | nil => exact CRL.nil
        | cons b r ih => exact CRL.cons (f := []) (f' := []) (by simp only [CR]; exact ⟨trivial, rfl, trivial⟩) ih
      refine ⟨s.data.toList.map fun b => .int .u8 b.toNat, hlist _, ?_, fun W => rfl, fun W _ => ?_⟩
      · simp only [List.length_map, Array.length_toList, Nat.mul_one]; rfl
      · have e : s.extract 0 s.size = s := by
          apply ByteArray.ext
          simp [ByteArray.data_extract]
        simp only [Builtin.firstCells, e]
        show Result.ok _ _ = _
        congr 1
        apply Array.ext'
        simp
    · cases hs
  · cases hs
end
end Go.Proofs.Ytfnnbjkjfoiboaa
