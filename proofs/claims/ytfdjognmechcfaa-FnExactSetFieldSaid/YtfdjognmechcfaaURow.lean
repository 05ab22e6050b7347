/- From a row's reading of its arguments to E words. -/
import Derived.Test.YtfdjognmechcfaaU4
namespace Go.Proofs.Ytfdjognmechcfaa
open Go.ChangeShapes Go.WideShapes Go.ChangeAt Go.RowKit Go.Deep Go.Joins
section
variable {H : Type} {en : TypeId × Value → H} {P : Program} {w : World} {spare : Nat → Bool} {held : Bool} {r : Reach} {base : Nat}
theorem open_struct {S : List TypeId} (hS : ∀ t ∈ S, closedAt P S t = true) {t : TypeId} (ht : t ∈ S) {F : Array Field} (hU : P.underlying t = some (.struct F)) {v : Value} {x : DataW H × List MemPlace} (hv : Value.okWide P w r base t v)
    (h : ∃ fuel, DataW.trod en P w 0 spare held fuel t v.cells.toList = some x) : ∃ e : E, v = e.val ∧ e.Ty P t ∧ e.In w := by
  unfold Value.okWide at hv
  rw [hU] at hv
  obtain ⟨cs, rfl, hsz, _⟩ := hv
  obtain ⟨m, hm⟩ := h
  have hc : (Value.agg cs).cells = cs := rfl
  rw [hc] at hm
  obtain ⟨e, he, hty, hre⟩ := open_e hS m t _ _ ht (by simpa using hsz) hm
  obtain ⟨fs, rfl, _⟩ := hty.agg_ hU
  refine ⟨_, ?_, hty, hre⟩
  have h2 : cs.toList = E.encL fs := he
  show Value.agg cs = .agg (E.encL fs).toArray
  rw [← h2]
theorem open_lst {S : List TypeId} (hS : ∀ t ∈ S, closedAt P S t = true) {t T : TypeId} (ht : t ∈ S) (hU : P.underlying t = some (.slice T)) (hc1 : P.cellsOf t = 1) {v : Value} {x : DataW H × List MemPlace} (hv : ∃ A l c, v = .slice A l c)
    (h : ∃ fuel, DataW.trod en P w 0 spare held fuel t v.cells.toList = some x) : ∃ e : E, v = e.val ∧ e.Ty P t ∧ e.In w := by
  obtain ⟨A, l, c, rfl⟩ := hv
  obtain ⟨m, hm⟩ := h
  have hc : (Value.slice A l c).cells = #[.slice A l c] := rfl
  rw [hc] at hm
  obtain ⟨e, he, hty, hre⟩ := open_e hS m t _ _ ht (by rw [hc1]; rfl) hm
  obtain ⟨A', c', l', rfl, _⟩ := hty.lst_ hU rfl
  refine ⟨_, ?_, hty, hre⟩
  have h2 : [Value.slice A l c] = [.slice A' l'.length c'] := he
  injection h2
end
end Go.Proofs.Ytfdjognmechcfaa
