/- The abstract machine, eight: literals, append, functions, strings of bytes; one operation. -/
import Derived.Test.YtfnnbjkjfoiboaaA7
import Derived.Laws.Tables
namespace Go.Proofs.Ytfnnbjkjfoiboaa
open Go.RowKit

def aFill (place : Nat → Option (Nat × Nat)) (cs : List AC) : List (Nat × AV) → Option (List AC)
  | [] => some cs
  | (i, x) :: rest =>
    match place i, x.cells with
    | some (off, size), some xs => if xs.length = size ∧ off + xs.length ≤ cs.length then aFill place (spl cs off xs) rest else none
    | _, _ => none
theorem spl_cons {α : Type} {l : List α} {o : Nat} {x : α} {m : List α} (h : o + (x :: m).length ≤ l.length) : spl (l.set o x) (o + 1) m = spl l o (x :: m) := by
  have hl : (x :: m).length = m.length + 1 := rfl
  apply List.ext_getElem?
  intro j
  rw [spl_get (by rw [List.length_set]; omega), spl_get h]
  by_cases h1 : j < o
  · rw [if_pos (by omega), if_pos h1, List.getElem?_set_ne (by omega)]
  · rw [if_neg h1]
    by_cases h2 : j = o
    · subst h2
      rw [if_pos (by omega), if_pos (by omega), Nat.sub_self, List.getElem?_set_self (by omega)]; rfl
    · rw [if_neg (by omega)]
      by_cases h3 : j < o + 1 + m.length
      · rw [if_pos h3, if_pos (by omega), show j - o = (j - (o + 1)) + 1 by omega]; rfl
      · rw [if_neg h3, if_neg (by omega), List.getElem?_set_ne (by omega)]
theorem foldl_spl (off : Nat) : ∀ (vs : List Value) (k : Nat) (cs : Array Value), off + k + vs.length ≤ cs.size → ((vs.zipIdx k).foldl (fun (cs : Array Value) (p : Value × Nat) => cs.setIfInBounds (off + p.2) p.1) cs).toList = spl cs.toList (off + k) vs
  | [], k, cs, _ => by simp [spl]
  | v :: vs, k, cs, h => by
    simp only [List.zipIdx_cons, List.foldl_cons]
    have hl : (v :: vs).length = vs.length + 1 := rfl
    rw [foldl_spl off vs (k + 1) _ (by rw [Array.size_setIfInBounds]; omega), Array.toList_setIfInBounds]
    have := spl_cons (l := cs.toList) (o := off + k) (x := v) (m := vs) (by rw [Array.length_toList]; omega)
    rw [← this]; rfl
section
variable {w : World} {St : Nat → Prop} {φ : Nat → Lc} {K : Nat → Prop}
/-- The parts of a literal. -/
def PRL (w : World) (St : Nat → Prop) (φ : Nat → Lc) (K : Nat → Prop) : List (Nat × AV) → List (Nat × Value) → Prop
  | [], vs => vs = []
  | (i, x) :: r, vs => ∃ u vs', vs = (i, u) :: vs' ∧ VR w St φ K x u ∧ PRL w St φ K r vs'
theorem fill_to (place : Nat → Option (Nat × Nat)) : ∀ (parts : List (Nat × AV)) (vs : List (Nat × Value)) (cs cs' : List AC) (us : Array Value), PRL w St φ K parts vs → CRL w St φ K cs us.toList [] → aFill place cs parts = some cs' →
    ∃ us', Instr.fill place us vs = some us' ∧ CRL w St φ K cs' us'.toList [] ∧ us'.size = us.size
  | [], vs, cs, cs', us, h, hc, hf => by
    simp only [PRL] at h
    simp only [aFill, Option.some.injEq] at hf
    subst h hf
    exact ⟨us, rfl, hc, rfl⟩
  | (i, x) :: r, vs, cs, cs', us, h, hc, hf => by
    simp only [PRL] at h
    obtain ⟨u, vs', rfl, h1, h2⟩ := h
    simp only [aFill] at hf
    split at hf
    · rename_i off size xs hp hx
      split at hf
      · rename_i hcond
        obtain ⟨e1, e2⟩ := hcond
        have hxu := cells_CRL hx h1
        have l1 := hxu.len
        have l2 := hc.len
        simp only [Array.length_toList] at l1 l2
        obtain ⟨fs', g1, g2⟩ := hc.spl hxu (o := off) e2
        obtain rfl : fs' = [] := List.sublist_nil.1 g2
        have hfold := foldl_spl off u.cells.toList 0 us (by rw [Array.length_toList]; omega)
        rw [Nat.add_zero] at hfold
        have e3 : (u.cells.zipIdx.foldl (fun (cs : Array Value) (p : Value × Nat) => cs.setIfInBounds (off + p.2) p.1) us).toList = spl us.toList off u.cells.toList := by
          rw [← hfold, ← Array.foldl_toList, Array.toList_zipIdx]
        obtain ⟨us', f1, f2, f3⟩ := fill_to place r vs' _ cs' (u.cells.zipIdx.foldl (fun (cs : Array Value) (p : Value × Nat) => cs.setIfInBounds (off + p.2) p.1) us) h2 (by rw [e3]; exact g1) hf
        refine ⟨us', ?_, f2, ?_⟩
        · simp only [Instr.fill, hp]
          rw [if_neg]
          · exact f1
          · simp only [Bool.or_eq_true, decide_eq_true_eq, not_or, Nat.not_lt]
            exact ⟨by omega, by omega⟩
        · rw [f3, ← Array.length_toList, e3, spl_len (by simp only [Array.length_toList]; omega), Array.length_toList]
      · cases hf
    · cases hf
theorem zero_rep (z : Array Value) (n : Nat) : CRL w St φ K ((madeCells z n).toList.map ofC) (madeCells z n).toList [] := ofC_CRL _
end
def aBuild (P : Program) (T : TypeId) (parts : List (Nat × AV)) : Option AV :=
  match P.info? T, P.underlying T with
  | some it, some (.struct fields) =>
    match it.zero, fields.toList.mapM (fun f => (P.info? f.type).map fun i => (f.offset, i.size)) with
    | some z, some places => (aFill (places.toArray[·]?) (z.cells.toList.map ofC) parts).map .ag
    | _, _ => none
  | _, _ => none
def aBuildSlice (P : Program) (σ : AS) (id : Nat) (T : TypeId) (len : Nat) (parts : List (Nat × AV)) : Option (AV × AS) :=
  match P.underlying T with
  | some (.slice e) =>
    match P.info? e with
    | some i =>
      match i.zero with
      | some z =>
        match aFill (fun j => some (j * i.size, i.size)) ((madeCells z.cells (len * i.size)).toList.map ofC) parts with
        | some cs => if σ.gn ≤ id ∧ id ∉ σ.us ∧ len * i.size ≤ 16777216 ∧ len ≤ 16777216 then some (.c (.sl id len), σ.grow id ⟨e, i.size, len, false, cs⟩) else none
        | none => none
      | none => none
    | none => none
  | _ => none
def srcTy : TypeDesc → Bool
  | .slice _ => true
  | .string => true
  | _ => false
def aAppend (P : Program) (σ : AS) (id : Nat) (T T2 : TypeId) (x y : AV) : Option (AV × AS) :=
  match P.underlying T, P.underlying T2 with
  | some (.slice e), some d2 =>
    match P.info? e with
    | some i =>
      match i.zero with
      | some z =>
        if srcTy d2 = true ∧ z.cells.size = i.size ∧ 0 < i.size ∧ σ.gn ≤ id ∧ id ∉ σ.us then
        match srcOf σ.hp i.size y with
        | some (m, ys) =>
          if ys.all noUn = true then
          match x with
          | .c (.sl j n) =>
            match σ.hp j with
            | some r => if r.T = e ∧ r.k = i.size ∧ r.n = n ∧ r.box = false ∧ (n + m) * i.bytes ≤ 140737488355328 ∧ n + m ≤ 9223372036854775807 then some (.c (.sl id (n + m)), (σ.set j none).grow id ⟨e, i.size, n + m, false, r.cs ++ ys⟩) else none
            | none => none
          | .c (.v (.slice none 0 0)) => if m * i.bytes ≤ 140737488355328 ∧ m ≤ 9223372036854775807 then some (.c (.sl id m), σ.grow id ⟨e, i.size, m, false, ys⟩) else none
          | _ => none
          else none
        | none => none
        else none
      | none => none
    | none => none
  | _, _ => none
section
variable {P : Program} {C : Ctx} {φ : Nat → Lc} {F : Nat → List Nat} {St : Nat → Prop} {σ : AS} {a : Act} {w : World}
theorem aBuild_to {K : Nat → Prop} {T : TypeId} {parts : List (Nat × AV)} {vs : Array (Nat × Value)} {y : AV} (hp : PRL w St φ K parts vs.toList) (he : aBuild P T parts = some y) : ∃ v, (Instr.build T vs).run P w = .ok v w ∧ VR w St φ K y v := by
  unfold aBuild at he
  split at he
  · rename_i it fields hi hu
    split at he
    · rename_i z places hz hpl
      simp only [Option.map_eq_some_iff] at he
      obtain ⟨cs, hf, rfl⟩ := he
      obtain ⟨us', f1, f2, _⟩ := fill_to _ parts vs.toList _ cs z.cells hp (ofC_CRL _) hf
      refine ⟨_, run_build w T vs us' ?_, by simp only [VR]; exact ⟨us'.toList, by simp, f2⟩⟩
      unfold Program.built
      simp only [hi, hu, hz, hpl]
      exact f1
    · cases he
  · cases he
theorem aBuildSlice_to (h : SimF C φ F St σ a w) {id : Nat} {T : TypeId} {len : Nat} {parts : List (Nat × AV)} {vs : Array (Nat × Value)} {y : AV} {σ' : AS} (hp : PRL w St φ σ.Kn parts vs.toList) (he : aBuildSlice P σ id T len parts = some (y, σ')) :
    ∃ v w', (Instr.buildSlice T len vs).run P w = .ok v w' ∧ PostS C σ' a y v w' := by
  unfold aBuildSlice at he
  split at he
  · rename_i e hT
    split at he
    · rename_i i hi
      split at he
      · rename_i z hz
        split at he
        · rename_i cs hf
          split at he
          · rename_i hc
            obtain ⟨h1, h2, h3, h4⟩ := hc
            injection he with he
            injection he with e1 e2
            subst e1 e2
            obtain ⟨us', f1, f2, f3⟩ := fill_to _ parts vs.toList _ cs (madeCells z.cells (len * i.size)) hp (ofC_CRL _) hf
            have hsz : us'.size = len * i.size := by rw [f3, size_madeCells]
            have hown := World.ownsRow_lit (base := 0) (e := e) (size := i.size) w us' len (Nat.zero_le _) (by unfold maxLen; omega) hsz
            refine ⟨_, _, ?_, h.newSlice h1 h2 (b0 := none) (Stp.alloc w (.cells us' e) none) (fun b hb => by cases hb) f2 (fun b hb => absurd hb List.not_mem_nil) hown (by simp [obl, Value.ownBlock]) (fun b hb => .inl (by simp [obl, Value.ownBlock] at hb; omega))⟩
            have h3' : ¬ (16777216 < len * i.size) := by omega
            have f1' : Instr.fill (fun j => some (j * i.size, i.size)) (Array.map (fun x => z.cells[x % z.cells.size]!) (Array.range (len * i.size))) vs.toList = some us' := f1
            by_cases hl0 : len * i.size = 0
            · have r0 : ∀ g : Nat → Value, Array.map g (Array.range 0) = #[] := fun g => Array.ext' (by simp)
              have f1'' : Instr.fill (fun j => some (j * i.size, i.size)) #[] vs.toList = some us' := by rw [hl0, r0] at f1'; exact f1'
              simp [Instr.buildSlice, run_underlying hT, sizeOf, typeInfo, hi, hl0, r0, f1'', newRow]
            · simp [Instr.buildSlice, run_underlying hT, sizeOf, typeInfo, zeroValue, hi, hz, h3', hl0, f1', newRow]
          · cases he
        · cases he
      · cases he
    · cases he
  · cases he
theorem aAppend_to (h : SimF C φ F St σ a w) {id : Nat} {T T2 : TypeId} {x y z : AV} {u v : Value} {σ' : AS} (hx : VR w St φ σ.Kn x u) (hy : VR w St φ σ.Kn y v) (he : aAppend P σ id T T2 x y = some (z, σ')) (ty : TypeId) :
    ∃ v' w', (Builtin.append_ #[T, T2] ty #[u, v]).run P w = .ok v' w' ∧ PostS C σ' a z v' w' := by
  unfold aAppend at he
  split at he
  · rename_i e d2 hT hT2
    split at he
    · rename_i i hi
      split at he
      · rename_i zz hz
        split at he
        · rename_i hc
          obtain ⟨c1, c2, c3, c4, c5⟩ := hc
          have hd2 : (∃ e', d2 = .slice e') ∨ d2 = .string := by
            cases d2 <;> first | exact .inl ⟨_, rfl⟩ | exact .inr rfl | (simp [srcTy] at c1)
          split at he
          · rename_i m ys hsrc
            obtain ⟨vs, s1, s2, s3, s4⟩ := src_run (P := P) h c3 hy hsrc
            split at he
            · rename_i hnu
              split at he
              · rename_i j n
                split at he
                · rename_i r hr
                  split at he
                  · rename_i hc
                    obtain ⟨rfl, k1, rfl, k3, k4, k5⟩ := hc
                    injection he with he
                    injection he with e1 e2
                    subst e1 e2
                    simp only [VR, CR] at hx
                    obtain ⟨_, _, eφ, A, c, hu⟩ := hx
                    have hrow := (h.row j r hr).2
                    rw [eφ] at hrow
                    obtain ⟨_, us, fs, g1, g2, g3⟩ := hrow
                    rw [k1] at g2
                    obtain ⟨v', w', r1, r2, r3, r4⟩ := run_app (ty := ty) hT hT2 hd2 hi hz c2 c3 s3 s4 s2 (s1.one hnu) g2 (by unfold maxLen; omega) k4
                    refine ⟨v', w', r1, ?_⟩
                    have hd := h.drop j
                    have hnd := h.nod j r hr
                    rw [g3] at hnd
                    have hfree : ∀ b ∈ F j, Free C φ F St { σ with hp := upd σ.hp j none } b := fun b hb => h.free hr hb
                    have hlt : ∀ b ∈ fs, b < w.heap.size := g1.lt
                    have hnd' := List.nodup_append.1 hnd
                    refine hd.newSlice (id := id) c4 c5 r3 (fun b hb => hfree b (by rw [g3]; exact List.mem_append_left _ (by simp [obl, hb]))) (by have := g1.app s1; rwa [List.append_nil] at this) (fun b hb e => ?_) r2 ?_ (fun b hb => ?_)
                    · exact hnd'.2.2 b (by simp [obl, ← e]) b hb rfl
                    · rw [List.nodup_append]
                      refine ⟨?_, hnd'.2.1, fun p hp q hq hpq => ?_⟩
                      · unfold obl; cases v'.ownBlock <;> simp
                      · subst hpq
                        rcases r4 p hp with h5 | h5
                        · exact hnd'.2.2 p h5 p hq rfl
                        · have := hlt p hq; omega
                    · rcases List.mem_append.1 hb with hb | hb
                      · rcases r4 b hb with h5 | h5
                        · exact .inr (hfree b (by rw [g3]; exact List.mem_append_left _ h5))
                        · exact .inl h5
                      · exact .inr (hfree b (by rw [g3]; exact List.mem_append_right _ hb))
                  · cases he
                · cases he
              · split at he
                · rename_i hc
                  injection he with he
                  injection he with e1 e2
                  subst e1 e2
                  simp only [VR, CR] at hx
                  obtain ⟨rfl, _, _⟩ := hx
                  obtain ⟨v', w', r1, r2, r3, r4⟩ := run_app (ty := ty) hT hT2 hd2 hi hz c2 c3 s3 s4 s2 (s1.one hnu) (World.ownsRow_nil w 0 e i.size) (by unfold maxLen; omega) (by rw [Nat.zero_add]; exact hc.1)
                  rw [Nat.zero_add, List.nil_append] at r2
                  refine ⟨v', w', r1, ?_⟩
                  refine h.newSlice (id := id) c4 c5 r3 (fun b hb => by cases hb) s1 (fun b hb => absurd hb List.not_mem_nil) r2 ?_ (fun b hb => ?_)
                  · rw [List.append_nil]; unfold obl; cases v'.ownBlock <;> simp
                  · rw [List.append_nil] at hb
                    rcases r4 b hb with h5 | h5
                    · simp [obl, Value.ownBlock] at h5
                    · exact .inl h5
                · cases he
              · cases he
            · cases he
          · cases he
        · cases he
      · cases he
    · cases he
  · cases he
end
end Go.Proofs.Ytfnnbjkjfoiboaa
