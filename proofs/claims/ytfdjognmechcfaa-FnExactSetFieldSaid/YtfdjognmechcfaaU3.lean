/- Data with places: inversions of types; the reading of arguments. -/
import Derived.Test.YtfdjognmechcfaaU2
import Derived.Test.YtfdjognmechcfaaOpen
namespace Go.Proofs.Ytfdjognmechcfaa
open Go.ChangeShapes Go.WideShapes Go.ChangeAt Go.RowKit Go.Deep

section
variable {P : Program} {t : TypeId} {e : E}
theorem E.Ty.int_ {k : IntKind} (h : e.Ty P t) (hU : P.underlying t = some (.int k)) : ∃ n, e = .int k n ∧ (Lit.int k n).wf = true := by
  cases e with
  | int k' n => simp only [E.Ty, hU] at h; obtain ⟨h1, h2⟩ := h; injection h1 with h1; injection h1 with h1; subst h1; exact ⟨n, rfl, h2⟩
  | bool | str => simp [E.Ty, hU] at h
  | agg fs => simp [E.Ty, hU] at h
  | lst => simp [E.Ty, hU] at h
theorem E.Ty.bool_ (h : e.Ty P t) (hU : P.underlying t = some .bool) : ∃ b, e = .bool b := by
  cases e with
  | bool b => exact ⟨b, rfl⟩
  | int | str => simp [E.Ty, hU] at h
  | agg fs => simp [E.Ty, hU] at h
  | lst => simp [E.Ty, hU] at h
theorem E.Ty.str_ (h : e.Ty P t) (hU : P.underlying t = some .string) : ∃ s, e = .str s ∧ s.size ≤ 9223372036854775807 := by
  cases e with
  | str s => simp only [E.Ty, maxLen] at h; exact ⟨s, rfl, by omega⟩
  | bool | int => simp [E.Ty, hU] at h
  | agg fs => simp [E.Ty, hU] at h
  | lst => simp [E.Ty, hU] at h
theorem E.Ty.agg_ {F : Array Field} (h : e.Ty P t) (hU : P.underlying t = some (.struct F)) : ∃ fs, e = .agg fs ∧ E.TyF P fs (F.toList.map (·.type)) := by
  cases e with
  | agg fs =>
    simp only [E.Ty, hU] at h
    obtain ⟨F', h1, h2⟩ := h
    injection h1 with h1; injection h1 with h1; subst h1
    exact ⟨fs, rfl, h2⟩
  | bool | int | str => simp [E.Ty, hU] at h
  | lst => simp [E.Ty, hU] at h
theorem E.Ty.lst_ {T : TypeId} {k : Nat} (h : e.Ty P t) (hU : P.underlying t = some (.slice T)) (hk : P.cellsOf T = k) : ∃ A c l, e = .lst k T A c l ∧ (∀ x ∈ l, x.Ty P T) ∧ (∀ x ∈ l, x.enc.length = k) := by
  cases e with
  | lst k' T' A c l =>
    simp only [E.Ty, hU, E.TyL_iff] at h
    obtain ⟨h1, ⟨h2, _⟩, h3, h4⟩ := h
    injection h1 with h1; injection h1 with h1; subst h1
    rw [hk] at h2; subst h2
    exact ⟨A, c, l, rfl, h4, h3⟩
  | bool | int | str => simp [E.Ty, hU] at h
  | agg fs => simp [E.Ty, hU] at h
theorem E.TyF.cons_ {fs : List E} {ts : List TypeId} (h : E.TyF P fs (t :: ts)) : ∃ e r, fs = e :: r ∧ e.Ty P t ∧ E.TyF P r ts := by
  cases fs with
  | nil => simp [E.TyF] at h
  | cons e r =>
    simp only [E.TyF] at h
    obtain ⟨t', tr, h1, h2, h3⟩ := h
    injection h1 with h1 h1'; subst h1; subst h1'
    exact ⟨e, r, rfl, h2, h3⟩
theorem E.TyF.nil_ {fs : List E} (h : E.TyF P fs []) : fs = [] := by
  cases fs with
  | nil => rfl
  | cons e r => simp [E.TyF] at h
theorem E.Ty.mk_lst {T : TypeId} {k c : Nat} {A : Option Addr} {l : List E} (hU : P.underlying t = some (.slice T)) (hk : P.cellsOf T = k) (h : ∀ x ∈ l, x.Ty P T) (h2 : ∀ x ∈ l, x.enc.length = k) (h64 : k ≤ 64 := by omega) : (E.lst k T A c l).Ty P t := by
  simp only [E.Ty, E.TyL_iff]; exact ⟨hU, ⟨hk.symm, h64⟩, h2, h⟩
end

/-- The types S can be read, and name no others. -/
def offsOk (P : Program) : Nat → List Field → Nat → Bool
  | a, [], n => a == n
  | a, f :: r, n => f.offset == a && offsOk P (a + P.cellsOf f.type) r n
def closedAt (P : Program) (S : List TypeId) (t : TypeId) : Bool :=
  match P.underlying t with
  | some (.int _) => P.cellsOf t == 1
  | some .bool => P.cellsOf t == 1
  | some .string => P.cellsOf t == 1
  | some (.slice T) => P.cellsOf t == 1 && decide (0 < P.cellsOf T ∧ P.cellsOf T ≤ 64) && S.contains T
  | some (.struct F) => F.toList.all (fun f => S.contains f.type) && offsOk P 0 F.toList (P.cellsOf t)
  | _ => false
section
variable {H : Type} {en : TypeId × Value → H} {P : Program} {w : World} {spare : Nat → Bool} {held : Bool}
theorem sl_of_trodN {α : Type} [Inhabited α] {t e : TypeId} {k fuel : Nat} {enc : α → List Value} {good : α → Prop} {v : Value} {x : DataW H × List MemPlace} (ht : P.underlying t = some (.slice e)) (hk : P.cellsOf e = k) (hk0 : 0 < k)
    (hlen : ∀ d, good d → (enc d).length = k) (dec : ∀ (n : Nat) (cs : List Value) (y : DataW H × List MemPlace), fuel = n + 1 → cs.length = k → DataW.trod en P w 0 spare held n e cs = some y → ∃ d, cs = enc d ∧ good d)
    (h : DataW.trod en P w 0 spare held fuel t [v] = some x) : ∃ ds : List α, Sl w 0 w.heap.size k enc v ds ∧ ∀ d ∈ ds, good d := by
  rcases DataW.trod_slice ht h with ⟨hcs, _⟩ | ⟨a, len, cap, elems, rest, n, hfu, hcs, hx, hb, hl, hm, hel, hi, _⟩
  · obtain rfl : v = .slice none 0 0 := by simpa using hcs
    exact ⟨[], ⟨none, 0, rfl, by simp, ⟨by unfold maxLen; omega, fun _ => rfl⟩, fun h => absurd h (by simp)⟩, fun d hd => absurd hd (by simp)⟩
  · obtain rfl : v = .slice (some a) len cap := by simpa using hcs
    have key : ∀ i, i < len → ∃ d : α, good d ∧ ∀ j, j < k → w.cell? ((a.add (i * k)).add j) = (enc d)[j]? := by
      intro i hi'
      have h1 := hi i hi'
      rw [List.getElem?_eq_getElem (by omega : i < elems.length), Option.bind_eq_some_iff] at h1
      obtain ⟨cs', hc, htr⟩ := h1
      rw [hk] at hc
      obtain ⟨_, hcl, hat⟩ := World.cells?_some hc
      obtain ⟨d, rfl, hg⟩ := dec n cs' _ hfu hcl htr
      exact ⟨d, hg, fun j hj => hat j hj⟩
    rcases Nat.eq_zero_or_pos len with h0 | h0
    · subst h0
      exact ⟨[], ⟨some a, cap, by simp, by simp, ⟨hm, fun h => by cases h⟩, fun h => absurd h (by simp)⟩, fun d hd => absurd hd (by simp)⟩
    obtain ⟨F, hF⟩ := choose_lt key
    refine ⟨(List.range len).map F, ⟨some a, cap, by simp, by simpa using hl, ⟨hm, fun h => by cases h⟩, fun hpos => ?_⟩, ?_⟩
    · have hpos' : 0 < len := by simpa using hpos
      have h00 := (hF 0 hpos').2 0 hk0
      obtain ⟨u0, hu⟩ : ∃ u, (enc (F 0))[0]? = some u := ⟨_, List.getElem?_eq_getElem (by rw [hlen _ (hF 0 hpos').1]; exact hk0)⟩
      rw [hu, Nat.zero_mul] at h00
      have e00 : (a.add 0).add 0 = a := by simp [Addr.add]
      rw [e00] at h00
      have hs := World.cell?_spot h00
      obtain ⟨b, o, sp⟩ := a
      simp only at hs
      subst hs
      refine ⟨b, o, rfl, Nat.zero_le _, cell_lt h00, fun i hil j u hu => ?_⟩
      have hil' : i < len := by simpa using hil
      have hu' : (enc (F i))[j]? = some u := by simpa using hu
      have hj : j < k := by
        rcases Nat.lt_or_ge j k with h | h
        · exact h
        · rw [List.getElem?_eq_none (by rw [hlen _ (hF i hil').1]; exact h)] at hu'; cases hu'
      have := (hF i hil').2 j hj
      rw [plain_add, plain_add, hu'] at this
      exact this
    · intro d hd
      obtain ⟨i, hi, rfl⟩ := List.mem_map.1 hd
      exact (hF i (by simpa using hi)).1
instance : Inhabited E := ⟨.bool false⟩
theorem open_fields {S : List TypeId} {n : Nat} (ih : ∀ (t : TypeId) (cs : List Value) (y : DataW H × List MemPlace), t ∈ S → cs.length = P.cellsOf t → DataW.trod en P w 0 spare held n t cs = some y → ∃ e : E, cs = e.enc ∧ e.Ty P t ∧ e.Re w 0 w.heap.size) (cs : List Value) :
    ∀ (fs : List Field) (a N : Nat), offsOk P a fs N = true → (∀ f ∈ fs, f.type ∈ S) → N ≤ cs.length → (∀ f ∈ fs, ∃ y, DataW.trod en P w 0 spare held n f.type ((cs.drop f.offset).take (P.cellsOf f.type)) = some y) →
    a ≤ N ∧ ∃ es : List E, (cs.take N).drop a = E.encL es ∧ E.TyF P es (fs.map (·.type)) ∧ E.ReL w 0 w.heap.size es
  | [], a, N, ho, _, _, _ => by
    simp only [offsOk, beq_iff_eq] at ho
    subst ho
    exact ⟨Nat.le_refl _, [], by simp [E.encL], by simp [E.TyF], by simp [E.ReL]⟩
  | f :: r, a, N, ho, hS, hN, hf => by
    simp only [offsOk, Bool.and_eq_true, beq_iff_eq] at ho
    obtain ⟨h1, h2⟩ := ho
    obtain ⟨hle, es, e1, e2, e3⟩ := open_fields ih cs r _ N h2 (fun x hx => hS x (List.mem_cons_of_mem _ hx)) hN (fun x hx => hf x (List.mem_cons_of_mem _ hx))
    obtain ⟨y, hy⟩ := hf f List.mem_cons_self
    rw [h1] at hy
    have hcl : ((cs.drop a).take (P.cellsOf f.type)).length = P.cellsOf f.type := by rw [List.length_take, List.length_drop]; omega
    obtain ⟨e, g1, g2, g3⟩ := ih f.type _ _ (hS f List.mem_cons_self) hcl hy
    refine ⟨by omega, e :: es, ?_, ?_, ?_⟩
    · rw [E.encL, ← e1, ← g1]
      apply List.ext_getElem?
      intro i
      by_cases hlt : i < P.cellsOf f.type
      · rw [List.getElem?_append_left (by rw [hcl]; exact hlt)]
        simp only [List.getElem?_drop, List.getElem?_take]
        rw [if_pos (by omega), if_pos hlt]
      · rw [List.getElem?_append_right (by rw [hcl]; omega), hcl]
        simp only [List.getElem?_drop, List.getElem?_take]
        have : a + i = a + P.cellsOf f.type + (i - P.cellsOf f.type) := by omega
        rw [this]
    · simp only [E.TyF, List.map_cons]; exact ⟨_, _, rfl, g2, e2⟩
    · simp only [E.ReL]; exact ⟨g3, e3⟩
theorem open_e {S : List TypeId} (hS : ∀ t ∈ S, closedAt P S t = true) : ∀ (fuel : Nat) (t : TypeId) (cs : List Value) (x : DataW H × List MemPlace), t ∈ S → cs.length = P.cellsOf t → DataW.trod en P w 0 spare held fuel t cs = some x → ∃ e : E, cs = e.enc ∧ e.Ty P t ∧ e.Re w 0 w.heap.size
  | 0, t, cs, x, _, _, h => by simp [DataW.trod] at h
  | n + 1, t, cs, x, ht, hc, h => by
    have hcl := hS t ht
    unfold closedAt at hcl
    split at hcl
    · rename_i k hU
      obtain ⟨n, rfl, _, hw⟩ := DataW.trod_int hU h
      exact ⟨.int k n, rfl, ⟨hU, hw⟩, trivial⟩
    · rename_i hU
      obtain ⟨b, rfl, _⟩ := DataW.trod_bool hU h
      exact ⟨.bool b, rfl, hU, trivial⟩
    · rename_i hU
      obtain ⟨s, rfl, _, hw⟩ := DataW.trod_string hU h
      exact ⟨.str s, rfl, ⟨hU, hw⟩, trivial⟩
    · rename_i T hU
      simp only [Bool.and_eq_true, beq_iff_eq, decide_eq_true_eq, List.contains_iff_mem] at hcl
      obtain ⟨⟨h1, h2⟩, h3⟩ := hcl
      rw [h1] at hc
      match cs, hc with
      | [v], _ =>
        obtain ⟨ds, hs, hg⟩ := sl_of_trodN (α := E) (enc := E.enc) (good := fun e => e.enc.length = P.cellsOf T ∧ e.Ty P T ∧ e.Re w 0 w.heap.size) hU rfl h2.1 (fun d hd => hd.1) (fun m cs' y hm hcl' hy => by
          injection hm with hm
          subst hm
          obtain ⟨e, rfl, g2, g3⟩ := open_e hS n T cs' y h3 hcl' hy
          exact ⟨e, rfl, hcl', g2, g3⟩) h
        obtain ⟨A, c, rfl, _, _⟩ := hs.form
        exact ⟨.lst (P.cellsOf T) T A c ds, rfl, E.Ty.mk_lst hU rfl (fun x hx => (hg x hx).2.1) (fun x hx => (hg x hx).1) h2.2, E.Re.mk hs fun x hx => (hg x hx).2.2⟩
    · rename_i F hU
      simp only [Bool.and_eq_true, List.all_eq_true, List.contains_iff_mem] at hcl
      obtain ⟨h1, h2⟩ := hcl
      obtain ⟨ys, n', hn', hyy, hlen, hyl, hf⟩ := DataW.trod_struct hU h
      injection hn' with hn'
      subst hn'
      obtain ⟨_, es, e1, e2, e3⟩ := open_fields (fun t cs y => open_e hS n t cs y) cs F.toList 0 _ h2 h1 (by omega) (fun f hfm => by
        obtain ⟨i, hi, rfl⟩ := List.getElem_of_mem hfm
        have h5 := hf i F.toList[i] (by rw [← Array.getElem?_toList]; exact List.getElem?_eq_getElem _)
        rw [List.getElem?_eq_getElem (by rw [hyl]; simpa using hi)] at h5
        exact ⟨_, h5⟩)
      rw [List.drop_zero, List.take_of_length_le (by omega)] at e1
      exact ⟨.agg es, e1, by simp only [E.Ty]; exact ⟨F, hU, e2⟩, by simp only [E.Re]; exact e3⟩
    · cases hcl
end
end Go.Proofs.Ytfdjognmechcfaa
