/- The reading of cells and heaps. -/
import Derived.Test.YtfnnbjkjfoiboaaOpen
import Derived.Test.YtfnnbjkjfoiboaaHeap3
namespace Go.Proofs.Ytfnnbjkjfoiboaa
open Go.ChangeShapes Go.WideShapes Go.ChangeAt Go.RowKit Go.Deep
section
variable {H : Type} {en : TypeId × Value → H} {w : World} {spare : Nat → Bool} {held : Bool}
theorem nCell : Try.prog.cellsOf 155 = 4 := by kernel_rfl
theorem nVal : Try.prog.cellsOf 26 = 3 := by kernel_rfl
theorem nInt : Try.prog.cellsOf 3 = 1 := by kernel_rfl
theorem nStr : Try.prog.cellsOf 9 = 1 := by kernel_rfl
theorem some_at {α : Type} {l : List α} {n i : Nat} (h : l.length = n) (hi : i < n) : ∃ x, l[i]? = some x := ⟨l[i]'(by omega), List.getElem?_eq_getElem _⟩
set_option maxRecDepth 100000 in
theorem val_cells {n : Nat} {cs : List Value} {y : DataW H × List MemPlace} (h : DataW.trod en Try.prog w 0 spare held n 26 cs = some y) : ∃ v : GVal, cs = encV v ∧ goodV v := by
  obtain ⟨ys, n', hn', hyy, hlen, hyl, hf⟩ := DataW.trod_struct Try.underlying26 h
  rw [nVal] at hlen
  match cs, hlen with
  | [c0, c1, c2], _ =>
    obtain ⟨y0, e0⟩ := some_at hyl (i := 0) (by decide)
    obtain ⟨y1, e1⟩ := some_at hyl (i := 1) (by decide)
    obtain ⟨y2, e2⟩ := some_at hyl (i := 2) (by decide)
    have h0 := (hf 0 _ rfl).trans e0
    change DataW.trod en _ w 0 spare held n' 3 ((([c0, c1, c2] : List Value).drop 0).take (Try.prog.cellsOf 3)) = some y0 at h0
    rw [nInt] at h0
    have h1 := (hf 1 _ rfl).trans e1
    change DataW.trod en _ w 0 spare held n' 3 ((([c0, c1, c2] : List Value).drop 1).take (Try.prog.cellsOf 3)) = some y1 at h1
    rw [nInt] at h1
    have h2 := (hf 2 _ rfl).trans e2
    change DataW.trod en _ w 0 spare held n' 9 ((([c0, c1, c2] : List Value).drop 2).take (Try.prog.cellsOf 9)) = some y2 at h2
    rw [nStr] at h2
    obtain ⟨a, ea, _, ga⟩ := DataW.trod_int Try.underlying3 h0
    obtain ⟨b, eb, _, gb⟩ := DataW.trod_int Try.underlying3 h1
    obtain ⟨s, es, _, gs⟩ := DataW.trod_string Try.underlying9 h2
    simp at ea eb es
    subst ea eb es
    exact ⟨⟨a, b, s⟩, rfl, i64_bounds ga, i64_bounds gb, gs⟩
set_option maxRecDepth 100000 in
theorem cell_cells {n : Nat} {cs : List Value} {y : DataW H × List MemPlace} (h : DataW.trod en Try.prog w 0 spare held n 155 cs = some y) : ∃ c : GCell, cs = encC c ∧ goodC c := by
  obtain ⟨ys, n', hn', hyy, hlen, hyl, hf⟩ := DataW.trod_struct Try.underlying155 h
  rw [nCell] at hlen
  match cs, hlen with
  | [c0, c1, c2, c3], _ =>
    obtain ⟨y0, e0⟩ := some_at hyl (i := 0) (by decide)
    obtain ⟨y1, e1⟩ := some_at hyl (i := 1) (by decide)
    have h0 := (hf 0 _ rfl).trans e0
    change DataW.trod en _ w 0 spare held n' 3 ((([c0, c1, c2, c3] : List Value).drop 0).take (Try.prog.cellsOf 3)) = some y0 at h0
    rw [nInt] at h0
    have h1 := (hf 1 _ rfl).trans e1
    change DataW.trod en _ w 0 spare held n' 26 ((([c0, c1, c2, c3] : List Value).drop 1).take (Try.prog.cellsOf 26)) = some y1 at h1
    rw [nVal] at h1
    obtain ⟨a, ea, _, ga⟩ := DataW.trod_int Try.underlying3 h0
    obtain ⟨v, ev, gv⟩ := val_cells h1
    simp at ea
    subst ea
    simp only [encV, List.cons.injEq] at ev
    obtain ⟨rfl, rfl, rfl, _⟩ := ev
    exact ⟨⟨a, v⟩, rfl, i64_bounds ga, gv⟩
theorem sl_cells {fuel : Nat} {v : Value} {x : DataW H × List MemPlace} (h : DataW.trod en Try.prog w 0 spare held fuel 22 [v] = some x) : ∃ ds : List GCell, Sl w 0 w.heap.size 4 encC v ds ∧ ∀ d ∈ ds, goodC d :=
  sl_of_trod Try.underlying22 nCell (by omega) (fun _ => rfl) (fun n cs y hy => cell_cells hy) h
set_option maxRecDepth 100000 in
theorem open_heap {t : TypeId} {f0 : Field} {r : Reach} {b0 : Nat} {v : Value} {d : DataW H} {p : List MemPlace} (ht : Try.prog.underlying t = some (.struct #[f0])) (h0 : f0.offset = 0 ∧ Try.prog.cellsOf f0.type = 1) (hC : Try.prog.cellsOf t = 1)
    (hv : Value.okWide Try.prog w r b0 t v) (h : DataW.Trod en Try.prog w 0 spare held t v d p) : ∃ (u : Value) (n : Nat) (y : DataW H × List MemPlace), v = .agg #[u] ∧ DataW.trod en Try.prog w 0 spare held n f0.type [u] = some y := by
  obtain ⟨cs, rfl, hsz⟩ := okWide_struct ht hv
  rw [hC] at hsz
  obtain ⟨l⟩ := cs
  match l, hsz with
  | [u], _ =>
    obtain ⟨fuel, hf⟩ := h
    obtain ⟨ys, n', hn', hyy, hlen, hyl, hg⟩ := DataW.trod_struct ht hf
    obtain ⟨y0, e0⟩ := some_at hyl (i := 0) (by simp)
    have h1 := (hg 0 f0 rfl).trans e0
    rw [h0.1, h0.2] at h1
    exact ⟨u, n', y0, rfl, by simpa [Value.cells] using h1⟩
end
end Go.Proofs.Ytfnnbjkjfoiboaa
