/- From the reading of an argument to my words on slices. -/
import Derived.Test.YtfdjognmechcfaaLaw
import Derived.Test.YtfdjognmechcfaaSl
import Derived.Deep.Slices
import Derived.Lib.SmallJoins
namespace Go.Proofs.Ytfdjognmechcfaa
open Go.ChangeShapes Go.WideShapes Go.ChangeAt Go.RowKit Go.Deep

section
variable {H : Type} {en : TypeId × Value → H} {P : Program} {w : World} {spare : Nat → Bool} {held : Bool}
theorem cell_lt {a : Addr} {u : Value} (h : w.cell? a = some u) : a.block < w.heap.size := by
  rcases Nat.lt_or_ge a.block w.heap.size with hlt | hge
  · exact hlt
  · unfold World.cell? at h
    rw [Array.getElem?_eq_none hge] at h
    cases h
theorem plain_add {b o : Nat} (n : Nat) : (⟨b, o, none⟩ : Addr).add n = ⟨b, o + n, none⟩ := by
  unfold Addr.add; split
  · subst_vars; rfl
  · rfl
theorem i64_bounds {n : Int} (h : (Lit.int .i64 n).wf = true) : -9223372036854775808 ≤ n ∧ n ≤ 9223372036854775807 := by
  simp [Lit.wf, IntKind.min, IntKind.max, IntKind.signed, IntKind.bits] at h
  omega
/-- A slice that can be read, whatever its elements: 'dec' says what an element's cells are. -/
theorem sl_of_trod {α : Type} {t e : TypeId} {k fuel : Nat} {enc : α → List Value} {good : α → Prop} {v : Value} {x : DataW H × List MemPlace} (ht : P.underlying t = some (.slice e)) (hk : P.cellsOf e = k) (hk0 : 0 < k)
    (hlen : ∀ d, (enc d).length = k) (dec : ∀ (n : Nat) (cs : List Value) (y : DataW H × List MemPlace), DataW.trod en P w 0 spare held n e cs = some y → ∃ d, cs = enc d ∧ good d)
    (h : DataW.trod en P w 0 spare held fuel t [v] = some x) : ∃ ds : List α, Sl w 0 w.heap.size k enc v ds ∧ ∀ d ∈ ds, good d := by
  rcases open_slice ht h with ⟨hcs, _⟩ | ⟨a, len, cap, m, n, D, Pl, hcs, hb, hl, hm, hmm, hx, hi⟩
  · obtain rfl : v = .slice none 0 0 := by simpa using hcs
    exact ⟨[], ⟨none, 0, rfl, by simp, ⟨by unfold maxLen; omega, fun _ => rfl⟩, fun h => absurd h (by simp)⟩, fun d hd => absurd hd (by simp)⟩
  · obtain rfl : v = .slice (some a) len cap := by simpa using hcs
    have hlm : len ≤ m := by rw [hmm]; split <;> omega
    have key : ∀ i, i < len → ∃ d : α, good d ∧ ∀ j, j < k → w.cell? ((a.add (i * k)).add j) = (enc d)[j]? := by
      intro i hi'
      obtain ⟨cs', hc, htr⟩ := hi i (by omega)
      rw [hk] at hc
      obtain ⟨_, hcl, hat⟩ := World.cells?_some hc
      obtain ⟨d, rfl, hg⟩ := dec n cs' _ htr
      exact ⟨d, hg, fun j hj => hat j hj⟩
    rcases Nat.eq_zero_or_pos len with h0 | h0
    · subst h0
      exact ⟨[], ⟨some a, cap, by simp, by simp, ⟨hm, fun h => by cases h⟩, fun h => absurd h (by simp)⟩, fun d hd => absurd hd (by simp)⟩
    haveI : Inhabited α := ⟨(key 0 h0).choose⟩
    obtain ⟨F, hF⟩ := choose_lt key
    refine ⟨(List.range len).map F, ⟨some a, cap, by simp, by simpa using hl, ⟨hm, fun h => by cases h⟩, fun hpos => ?_⟩, ?_⟩
    · have hpos' : 0 < len := by simpa using hpos
      have h00 := (hF 0 hpos').2 0 hk0
      have hu : (enc (F 0))[0]? = some ((enc (F 0))[0]'(by rw [hlen]; exact hk0)) := List.getElem?_eq_getElem _
      rw [hu, Nat.zero_mul] at h00
      have e00 : (a.add 0).add 0 = a := by simp [Addr.add]
      rw [e00] at h00
      have hs := World.cell?_spot h00
      obtain ⟨b, o, sp⟩ := a
      simp only at hs
      subst hs
      refine ⟨b, o, rfl, Nat.zero_le _, cell_lt h00, fun i hil j u hu => ?_⟩
      have hil' : i < len := by simpa using hil
      have hj : j < k := by
        rcases Nat.lt_or_ge j k with h | h
        · exact h
        · rw [List.getElem?_eq_none (by rw [hlen]; exact h)] at hu; cases hu
      have := (hF i hil').2 j hj
      rw [plain_add, plain_add] at this
      rw [this]
      simpa using hu
    · intro d hd
      obtain ⟨i, hi', rfl⟩ := List.mem_map.1 hd
      exact (hF i (List.mem_range.1 hi')).1
theorem sl_strings {t e : TypeId} {fuel : Nat} {v : Value} {x : DataW H × List MemPlace} (ht : P.underlying t = some (.slice e)) (he : P.underlying e = some .string) (hk : P.cellsOf e = 1)
    (h : DataW.trod en P w 0 spare held fuel t [v] = some x) : ∃ ds : List ByteArray, Sl w 0 w.heap.size 1 encS v ds ∧ ∀ d ∈ ds, d.size ≤ maxLen :=
  sl_of_trod ht hk (by omega) (fun _ => rfl) (fun n cs y hy => by
    obtain ⟨s, rfl, _, hs⟩ := DataW.trod_string he hy
    exact ⟨s, rfl, hs⟩) h
theorem sl_bytes {t e : TypeId} {fuel : Nat} {v : Value} {x : DataW H × List MemPlace} (ht : P.underlying t = some (.slice e)) (he : P.underlying e = some (.int .u8)) (hk : P.cellsOf e = 1)
    (h : DataW.trod en P w 0 spare held fuel t [v] = some x) : ∃ ds : List UInt8, Sl w 0 w.heap.size 1 encB v ds ∧ ∀ d ∈ ds, True :=
  sl_of_trod ht hk (by omega) (fun _ => rfl) (fun n cs y hy => by
    obtain ⟨s, rfl, _, hs⟩ := DataW.trod_int he hy
    simp [Lit.wf, IntKind.min, IntKind.max, IntKind.signed, IntKind.bits] at hs
    exact ⟨UInt8.ofNat s.toNat, by simp [encB]; omega, trivial⟩) h
end
end Go.Proofs.Ytfdjognmechcfaa
