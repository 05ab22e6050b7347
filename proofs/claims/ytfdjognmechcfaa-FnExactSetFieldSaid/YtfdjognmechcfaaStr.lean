/- strings.IndexByte, strings.Join as contracts of the machine. -/
import Derived.Test.YtfdjognmechcfaaAJ
import Derived.Test.YtfdjognmechcfaaLayI
import Derived.Test.YtfdjognmechcfaaLayJ
import Derived.Shelf.Small.Strs
import Derived.Shelf.Strings.OnBuilder
namespace Go.Proofs.Ytfdjognmechcfaa
open Go.RowKit
set_option maxRecDepth 100000
theorem ctr_of_callsR {P : Program} {f : FuncId} {ins : List AV} {v : Value} (he : entB P f = true) (hv : scal v = true)
    (hc : ∀ (w : World) (St : Nat → Prop) (φ : Nat → Lc) (K : Nat → Prop) (us : List Value), VRL w St φ K ins us → Calls P f us.toArray w fun e w' => e = .returned v ∧ Below w.heap.size w w') : Ctr P f ins [] (.c (.v v)) [] := by
  refine ⟨he, fun w St φ F us' hent => ?_⟩
  refine (hc w St φ _ us' hent.args).mono ?_
  rintro e w' ⟨rfl, hb⟩
  refine ⟨_, _, v, fun _ => False, fun _ => [], [], ⟨rfl, rfl⟩, rfl, ⟨⟨hb.os, hb.tape, hb.output, hb.size, fun b hlt _ => .inl (hb.block b hlt)⟩, ?_, by simp, rfl, fun i cs hi => by simp at hi, fun i hi => by simp at hi, fun i hi => by simp at hi, fun i j hi => by simp at hi, fun i b lo hi => by simp at hi, fun b hb => by simp at hb, fun b hb => hb.elim⟩⟩
  simp only [VRF, CR]
  exact ⟨trivial, hv, trivial⟩
theorem indexByte_c (s : ByteArray) {c : Nat} (_hc : c < 256) : Ctr Try.prog 115 [.c (.v (.string s)), .c (.v (.int .u8 (c : Int)))] [] (.c (.v (.int .i64 (Lib.indexByte s.data.toList (UInt8.ofNat c))))) [] := by
  refine ctr_of_callsR (by kernel_rfl) rfl fun w St φ K us h => ?_
  simp only [VRL, VR, CR] at h
  obtain ⟨u, us1, rfl, ⟨rfl, -⟩, u2, us2, rfl, ⟨rfl, -⟩, rfl⟩ := h
  refine (Go.Proofs.Any.strings_IndexByte lays137 s (c : Int) w).mono ?_
  rintro e w' ⟨rfl, rfl⟩
  exact ⟨rfl, Below.refl _ _⟩
/-- The bytes of a text. -/
def strB : E → ByteArray
  | .str s => s
  | _ => ByteArray.empty
theorem crl_str {w : World} {St : Nat → Prop} {φ : Nat → Lc} {K : Nat → Prop} : ∀ {l : List E} {us : List Value} {fp : List Nat}, (∀ e ∈ l, ∃ s, e = .str s) → CRL w St φ K (acL l) us fp → us = l.map fun e => .string (strB e)
  | [], us, fp, _, h => by
    simp only [acL, CRL] at h
    exact h.1
  | e :: r, us, fp, he, h => by
    obtain ⟨s, rfl⟩ := he e List.mem_cons_self
    have h' : CRL w St φ K (.v (.string s) :: acL r) us fp := h
    simp only [CRL] at h'
    obtain ⟨u, us', f1, f2, rfl, rfl, h1, h2⟩ := h'
    simp only [CR] at h1
    obtain ⟨rfl, -⟩ := h1
    rw [crl_str (fun e he' => he e (List.mem_cons_of_mem _ he')) h2]
    rfl
def joinB (l : List E) (sep : ByteArray) : ByteArray := ⟨(Lib.join (l.map fun e => (strB e).data.toList) sep.data.toList).toArray⟩
theorem join_c {l : List E} (hl : ∀ e ∈ l, ∃ s, e = .str s) (sep : ByteArray) (hn : l.length ≤ 1073741824) (hsz : (joinB l sep).size ≤ 140737488355328) : Ctr Try.prog 52 [.c (.ro l.length 1 (acL l)), .c (.v (.string sep))] [] (.c (.v (.string (joinB l sep)))) [] := by
  refine ctr_of_callsR (by kernel_rfl) rfl fun w St φ K us h => ?_
  simp only [VRL, VR, CR] at h
  obtain ⟨u, us1, rfl, ⟨-, A, c, rfl, ⟨h1, h2, h3⟩, h4, h5⟩, u2, us2, rfl, ⟨rfl, -⟩, rfl⟩ := h
  cases l with
  | nil => exact (Go.Proofs.Any.strings_Join_none lays156 Builder_Extra_156 A c sep w).mono fun e w' ⟨he, hw⟩ => ⟨he, hw ▸ Below.refl _ _⟩
  | cons x r =>
    obtain ⟨b, o, us, rfl, -, hb, hc, hcr⟩ := h5 (by simp)
    have hus := crl_str hl hcr
    have e1 : (x :: r).length = ((x :: r).map strB).length := by simp
    have e2 : joinB (x :: r) sep = ⟨(Lib.join (((x :: r).map strB).map (·.data.toList)) sep.data.toList).toArray⟩ := by unfold joinB; rw [List.map_map]; rfl
    rw [e2] at hsz ⊢
    rw [e1] at hn h1 ⊢
    refine Go.Proofs.Any.strings_Join lays156 Builder_Extra_156 b o c ((x :: r).map strB) sep w (fun j y hy => hc j _ ?_) hb (by omega) h1 ?_
    · rw [hus, List.getElem?_map]
      rw [List.getElem?_map] at hy
      cases hq : (x :: r)[j]? with
      | none => rw [hq] at hy; cases hy
      | some e => rw [hq] at hy; simp at hy; simp [hy]
    · have : (ByteArray.mk (Lib.join (((x :: r).map strB).map (·.data.toList)) sep.data.toList).toArray).size = (Lib.join (((x :: r).map strB).map (·.data.toList)) sep.data.toList).length := by show (List.toArray _).size = _; rw [List.size_toArray]
      rw [this] at hsz
      exact hsz
end Go.Proofs.Ytfdjognmechcfaa
