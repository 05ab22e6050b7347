/- The abstract machine, twenty-six: cells weakened; slices that are nothing, as rows; flat data. -/
import Derived.Test.YtfnnbjkjfoiboaaA25
namespace Go.Proofs.Ytfnnbjkjfoiboaa
open Go.RowKit

/-- Cells that say no more. -/
def CLe (l m : List AC) : Prop := m.length = l.length ∧ ∀ (w : World) (St : Nat → Prop) (φ : Nat → Lc) (K : Nat → Prop) (us : List Value) (fp : List Nat), CRL w St φ K l us fp → CRL w St φ K m us fp
theorem CLe.refl (l : List AC) : CLe l l := ⟨rfl, fun _ _ _ _ _ _ h => h⟩
theorem CLe.cons (c : AC) {l m : List AC} (h : CLe l m) : CLe (c :: l) (c :: m) := ⟨by simp [h.1], fun w St φ K us fp hc => by
  simp only [CRL] at hc
  obtain ⟨u, us', f, f', rfl, rfl, h1, h2⟩ := hc
  exact CRL.cons h1 (h.2 w St φ K us' f' h2)⟩
theorem CLe.nil (T : TypeId) (k : Nat) {l m : List AC} (h : CLe l m) : CLe (.v (.slice none 0 0) :: l) (.ow T 0 k [] :: m) := ⟨by simp [h.1], fun w St φ K us fp hc => by
  simp only [CRL, CR] at hc
  obtain ⟨u, us', f, f', rfl, rfl, ⟨rfl, _, rfl⟩, h2⟩ := hc
  refine CRL.cons (f := []) ?_ (h.2 w St φ K us' f' h2)
  simp only [CR]
  exact ⟨[], [], CRL.nil, World.ownsRow_nil w 0 T k, by simp [obl, Value.ownBlock]⟩⟩
theorem CLe.app {l m l' m' : List AC} (h : CLe l m) (k : CLe l' m') : CLe (l ++ l') (m ++ m') := ⟨by simp [h.1, k.1], fun w St φ K us fp hc => by
  obtain ⟨u1, u2, f1, f2, rfl, rfl, g1, g2⟩ := hc.split
  exact (h.2 _ _ _ _ _ _ g1).app (k.2 _ _ _ _ _ _ g2)⟩
section
variable {C : Ctx} {φ : Nat → Lc} {F : Nat → List Nat} {St : Nat → Prop} {σ : AS} {a : Act} {w : World}
theorem SimF.cells (h : SimF C φ F St σ a w) {i : Nat} {r : Row} (hr : σ.hp i = some r) {cs : List AC} (hc : CLe r.cs cs) : SimF C φ F St { σ with hp := upd σ.hp i (some { r with cs := cs }) } a w := by
  have get : ∀ j s, upd σ.hp i (some { r with cs := cs }) j = some s → ∃ s', σ.hp j = some s' ∧ s.cs.length = s'.cs.length ∧ (s = s' ∨ (j = i ∧ s' = r ∧ s = { r with cs := cs })) := fun j s hj => by
    by_cases e : j = i
    · subst e; rw [upd_same] at hj; injection hj with hj; subst hj; exact ⟨r, hr, hc.1, .inr ⟨rfl, rfl, rfl⟩⟩
    · rw [upd_ne _ _ e] at hj; exact ⟨s, hj, rfl, .inl rfl⟩
  refine ⟨h.dfr, h.len, h.tms, fun j s hj => ?_, fun j s hj => ?_, fun j k s t hj hk => ?_, fun j k s t b lo hj hk => ?_, fun j k s t b lo lo' hj hk hjk e e' => ?_, fun j s b hj => ?_, fun j s b lo hj => ?_, h.frm, fun j s b hj => ?_, fun j hj => ⟨(h.par j hj).1, fun s hs q hq => ?_⟩, fun j s b lo hj => ?_, h.gnN, h.stS⟩
  · obtain ⟨s', h1, _, rfl | ⟨rfl, rfl, rfl⟩⟩ := get j s hj
    · exact h.row j s h1
    · refine ⟨(h.row j s' h1).1, ?_⟩
      have hrow := (h.row j s' h1).2
      show RowOk w St φ σ.Kn _ (F j) (φ j)
      cases e : φ j with
      | box b lo => rw [e] at hrow; obtain ⟨g0, us, g1, g2⟩ := hrow; exact ⟨g0, us, hc.2 _ _ _ _ _ _ g1, g2⟩
      | slc u => rw [e] at hrow; obtain ⟨g0, us, fs, g1, g2, g3⟩ := hrow; exact ⟨g0, us, fs, hc.2 _ _ _ _ _ _ g1, g2, g3⟩
  · obtain ⟨s', h1, _⟩ := get j s hj; exact h.nod j s' h1
  · obtain ⟨s', h1, _⟩ := get j s hj; obtain ⟨t', h2, _⟩ := get k t hk; exact h.dis j k s' t' h1 h2
  · obtain ⟨s', h1, _⟩ := get j s hj; obtain ⟨t', h2, _⟩ := get k t hk; exact h.bxF j k s' t' b lo h1 h2
  · obtain ⟨s', h1, e1, _⟩ := get j s hj; obtain ⟨t', h2, e2, _⟩ := get k t hk; rw [e1, e2]; exact h.bxd j k s' t' b lo lo' h1 h2 hjk e e'
  · obtain ⟨s', h1, _⟩ := get j s hj; exact h.stF j s' b h1
  · obtain ⟨s', h1, _⟩ := get j s hj; exact h.stB j s' b lo h1
  · obtain ⟨s', h1, _⟩ := get j s hj; exact h.own j s' b h1
  · obtain ⟨s', h1, e1, _⟩ := get j s hs; exact (h.par j hj).2 s' h1 q (by rw [← e1]; exact hq)
  · obtain ⟨s', h1, _⟩ := get j s hj; exact h.new j s' b lo h1
end
section
variable {tm : Nat → AV} {hp : Nat → Option Row} {gn L : Nat} {us : List Nat}
theorem gh_cells {i : Nat} {r : Row} (hr : hp i = some r) {cs : List AC} (hc : CLe r.cs cs) : Gh ⟨tm, hp, gn, us, L⟩ ⟨tm, upd hp i (some { r with cs := cs }), gn, us, L⟩ := fun _ _ _ ⟨φ, F, St, h⟩ => ⟨φ, F, St, h.cells hr hc⟩
theorem g_absorb {i j n : Nat} {r s : Row} (hij : Nat.beq i j = false) (hr : hp i = some r) (hs : hp j = some s) (hsb : s.box = false) (hsn : s.n = n) {pre post : List AC} (hcs : r.cs = pre ++ .sl j n :: post) :
    Gh ⟨tm, hp, gn, us, L⟩ ⟨tm, upd (upd hp j none) i (some { r with cs := pre ++ .ow s.T n s.k s.cs :: post }), gn, us, L⟩ := gh_absorb (σ := ⟨tm, hp, gn, us, L⟩) (by rintro rfl; simp at hij) hr hs hsb hsn hcs
theorem g_reveal (id : Nat) {i n k : Nat} {T : TypeId} {l : List AC} {r : Row} (hr : hp i = some r) (hf : (Nat.ble gn id && !us.contains id) = true) {pre post : List AC} (hcs : r.cs = pre ++ .ow T n k l :: post) :
    Gh ⟨tm, hp, gn, us, L⟩ ⟨tm, upd (upd hp id (some ⟨T, k, n, false, l⟩)) i (some { r with cs := pre ++ .sl id n :: post }), gn, id :: us, L⟩ := by
  simp only [Bool.and_eq_true, Nat.ble_eq, Bool.not_eq_true'] at hf
  exact gh_reveal (σ := ⟨tm, hp, gn, us, L⟩) hr hf.1 (fun hm => by have := hf.2; simp at this; exact this hm) hcs
/-- A slice that is nothing, as a row. -/
theorem g_nil (id : Nat) {i : Nat} (T : TypeId) (k : Nat) {r : Row} (hr : hp i = some r) (hf : (Nat.ble gn id && !us.contains id) = true) {pre post : List AC} (hcs : r.cs = pre ++ .v (.slice none 0 0) :: post) :
    Gh ⟨tm, hp, gn, us, L⟩ ⟨tm, upd (upd (upd hp i (some { r with cs := pre ++ .ow T 0 k [] :: post })) id (some ⟨T, k, 0, false, []⟩)) i (some { r with cs := pre ++ .sl id 0 :: post }), gn, id :: us, L⟩ := by
  have h1 := gh_cells (tm := tm) (gn := gn) (L := L) (us := us) hr (cs := pre ++ .ow T 0 k [] :: post) (by rw [hcs]; exact (CLe.refl pre).app (CLe.nil T k (CLe.refl post)))
  refine h1.trans ?_
  exact g_reveal id (r := { r with cs := pre ++ .ow T 0 k [] :: post }) (upd_same _ _ _) hf rfl
end
mutual
/-- No slices. -/
def flatE : E → Bool
  | .agg fs => flatL fs
  | .lst .. => false
  | _ => true
def flatL : List E → Bool
  | [] => true
  | e :: r => flatE e && flatL r
end
mutual
theorem acE_flat : ∀ e : E, flatE e = true → acE e = owE e
  | .int _ _, _ => rfl
  | .bool _, _ => rfl
  | .str _, _ => rfl
  | .agg fs, h => by simp only [flatE] at h; simp only [acE, owE]; exact acL_flat fs h
  | .lst .., h => by simp [flatE] at h
theorem acL_flat : ∀ l : List E, flatL l = true → acL l = owL l
  | [], _ => rfl
  | e :: r, h => by simp only [flatL, Bool.and_eq_true] at h; simp only [acL, owL]; rw [acE_flat e h.1, acL_flat r h.2]
end
theorem flatL_of : ∀ {l : List E}, (∀ e ∈ l, flatE e = true) → flatL l = true
  | [], _ => rfl
  | e :: r, h => by simp only [flatL, Bool.and_eq_true]; exact ⟨h e List.mem_cons_self, flatL_of fun x hx => h x (List.mem_cons_of_mem _ hx)⟩
theorem owL_take_succ {l : List E} {k : Nat} {x : E} (h : l[k]? = some x) : owL (l.take (k + 1)) = owL (l.take k) ++ owE x := by
  obtain ⟨hk, hx⟩ := List.getElem?_eq_some_iff.1 h
  rw [List.take_succ_eq_append_getElem hk, owL_app, hx]
  simp [owL]
end Go.Proofs.Ytfnnbjkjfoiboaa
