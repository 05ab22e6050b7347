/- The reading of environments. -/
import Derived.Test.YtfnnbjkjfoiboaaOpenHeap
import Derived.Test.YtfnnbjkjfoiboaaEnvLaw
namespace Go.Proofs.Ytfnnbjkjfoiboaa
open Go.ChangeShapes Go.WideShapes Go.ChangeAt Go.RowKit Go.Deep
section
variable {H : Type} {en : TypeId × Value → H} {w : World} {spare : Nat → Bool} {held : Bool}
theorem nNamed : Try.prog.cellsOf 172 = 4 := by kernel_rfl
set_option maxRecDepth 100000 in
theorem named_cells {n : Nat} {cs : List Value} {y : DataW H × List MemPlace} (h : DataW.trod en Try.prog w 0 spare held n 172 cs = some y) : ∃ d : GNamed, cs = encNamed d ∧ goodNamed d := by
  obtain ⟨ys, n', hn', hyy, hlen, hyl, hf⟩ := DataW.trod_struct Try.underlying172 h
  rw [nNamed] at hlen
  match cs, hlen with
  | [c0, c1, c2, c3], _ =>
    obtain ⟨y0, e0⟩ := some_at hyl (i := 0) (by decide)
    obtain ⟨y1, e1⟩ := some_at hyl (i := 1) (by decide)
    have h0 := (hf 0 _ rfl).trans e0
    change DataW.trod en _ w 0 spare held n' 9 ((([c0, c1, c2, c3] : List Value).drop 0).take (Try.prog.cellsOf 9)) = some y0 at h0
    rw [nStr] at h0
    have h1 := (hf 1 _ rfl).trans e1
    change DataW.trod en _ w 0 spare held n' 26 ((([c0, c1, c2, c3] : List Value).drop 1).take (Try.prog.cellsOf 26)) = some y1 at h1
    rw [nVal] at h1
    obtain ⟨s, es, _, gs⟩ := DataW.trod_string Try.underlying9 h0
    obtain ⟨v, ev, gv⟩ := val_cells h1
    simp at es
    subst es
    simp only [encV, List.cons.injEq] at ev
    obtain ⟨rfl, rfl, rfl, _⟩ := ev
    exact ⟨⟨s, v⟩, rfl, gs, gv.1, gv.2.1, gv.2.2⟩
theorem sl_nameds {fuel : Nat} {v : Value} {x : DataW H × List MemPlace} (h : DataW.trod en Try.prog w 0 spare held fuel 60 [v] = some x) : ∃ ds : List GNamed, Sl w 0 w.heap.size 4 encNamed v ds ∧ ∀ d ∈ ds, goodNamed d :=
  sl_of_trod Try.underlying60 nNamed (by omega) (fun _ => rfl) (fun n cs y hy => named_cells hy) h
theorem nEntry : Try.prog.cellsOf 203 = 4 := by kernel_rfl
set_option maxRecDepth 100000 in
theorem entry_cells {n : Nat} {cs : List Value} {y : DataW H × List MemPlace} (h : DataW.trod en Try.prog w 0 spare held n 203 cs = some y) : ∃ d : GEntry, cs = encEntry d ∧ goodEntry d := by
  obtain ⟨ys, n', hn', hyy, hlen, hyl, hf⟩ := DataW.trod_struct Try.underlying203 h
  rw [nEntry] at hlen
  match cs, hlen with
  | [c0, c1, c2, c3], _ =>
    obtain ⟨y0, e0⟩ := some_at hyl (i := 0) (by decide)
    obtain ⟨y1, e1⟩ := some_at hyl (i := 1) (by decide)
    have h0 := (hf 0 _ rfl).trans e0
    change DataW.trod en _ w 0 spare held n' 9 ((([c0, c1, c2, c3] : List Value).drop 0).take (Try.prog.cellsOf 9)) = some y0 at h0
    rw [nStr] at h0
    have h1 := (hf 1 _ rfl).trans e1
    change DataW.trod en _ w 0 spare held n' 26 ((([c0, c1, c2, c3] : List Value).drop 1).take (Try.prog.cellsOf 26)) = some y1 at h1
    rw [nVal] at h1
    obtain ⟨s, es, _, gs⟩ := DataW.trod_string Try.underlying9 h0
    obtain ⟨v, ev, gv⟩ := val_cells h1
    simp at es
    subst es
    simp only [encV, List.cons.injEq] at ev
    obtain ⟨rfl, rfl, rfl, _⟩ := ev
    exact ⟨⟨s, v⟩, rfl, gs, gv.1, gv.2.1, gv.2.2⟩
theorem sl_entrys {fuel : Nat} {v : Value} {x : DataW H × List MemPlace} (h : DataW.trod en Try.prog w 0 spare held fuel 174 [v] = some x) : ∃ ds : List GEntry, Sl w 0 w.heap.size 4 encEntry v ds ∧ ∀ d ∈ ds, goodEntry d :=
  sl_of_trod Try.underlying174 nEntry (by omega) (fun _ => rfl) (fun n cs y hy => entry_cells hy) h
theorem nTable : Try.prog.cellsOf 176 = 2 := by kernel_rfl
theorem nEntries : Try.prog.cellsOf 174 = 1 := by kernel_rfl
set_option maxRecDepth 100000 in
theorem table_cells {n : Nat} {cs : List Value} {y : DataW H × List MemPlace} (h : DataW.trod en Try.prog w 0 spare held n 176 cs = some y) : ∃ t : GTab, cs = encTab t ∧ (goodTab t ∧ Sl w 0 w.heap.size 4 encEntry (.slice t.A t.l.length t.c) t.l) := by
  obtain ⟨ys, n', hn', hyy, hlen, hyl, hf⟩ := DataW.trod_struct Try.underlying176 h
  rw [nTable] at hlen
  match cs, hlen with
  | [c0, c1], _ =>
    obtain ⟨y0, e0⟩ := some_at hyl (i := 0) (by decide)
    obtain ⟨y1, e1⟩ := some_at hyl (i := 1) (by decide)
    have h0 := (hf 0 _ rfl).trans e0
    change DataW.trod en _ w 0 spare held n' 9 ((([c0, c1] : List Value).drop 0).take (Try.prog.cellsOf 9)) = some y0 at h0
    rw [nStr] at h0
    have h1 := (hf 1 _ rfl).trans e1
    change DataW.trod en _ w 0 spare held n' 174 ((([c0, c1] : List Value).drop 1).take (Try.prog.cellsOf 174)) = some y1 at h1
    rw [nEntries] at h1
    obtain ⟨s, es, _, gs⟩ := DataW.trod_string Try.underlying9 h0
    obtain ⟨l, sl, gl⟩ := sl_entrys h1
    simp at es
    subst es
    obtain ⟨A, c, rfl, _, _⟩ := sl.form
    exact ⟨⟨s, A, c, l⟩, rfl, ⟨gs, gl⟩, sl⟩
theorem sl_tables {fuel : Nat} {v : Value} {x : DataW H × List MemPlace} (h : DataW.trod en Try.prog w 0 spare held fuel 61 [v] = some x) : ∃ ts : List GTab, Sl w 0 w.heap.size 2 encTab v ts ∧ ∀ t ∈ ts, (goodTab t ∧ Sl w 0 w.heap.size 4 encEntry (.slice t.A t.l.length t.c) t.l) :=
  sl_of_trod Try.underlying61 nTable (by omega) (fun _ => rfl) (fun n cs y hy => table_cells hy) h
end
end Go.Proofs.Ytfnnbjkjfoiboaa
