/- Alloc of both sides. -/
import Derived.Test.YtjgmdbhbnpafgaaAlloc2
namespace Go.Proofs.Ytjgmdbhbnpafgaa
open Go.RowKit

theorem ret_cell2 {P : Program} {fn : Func} {p u : Tmp} {ty t : TypeId} {tmps : Array Value} {w : World} {b : Nat} {cs : Array Value} {fr : Nat × Nat} {fs : Array Field}
    (h : fn.results = #[.cell p ty, .tmp u]) (ha : tmps.getD p undef = .pointer (some ⟨b, 0, none⟩)) (ht : P.underlying ty = some (.struct fs))
    (hc : (P.info? ty).map (·.size) = some cs.size)
    (hg : w.heap[b]? = some (.cells cs t fr)) : (results fn tmps).run P w = .ok (.tuple #[.agg cs, tmps.getD u undef]) w := by
  have ha' : tmps[p]?.getD undef = .pointer (some ⟨b, 0, none⟩) := by simpa using ha
  have hv := run_loadVar_row (P := P) w b t ty cs fr _ hg ht rfl hc
  simp only [results, h]
  simp [Sem.run_bind, Result.andThen, ha', asAddr, hv]

set_option maxRecDepth 100000 in
set_option maxHeartbeats 1000000 in
theorem implAlloc_any (A : Option Addr) (ln c : Nat) (ds : List GCell) (v : GVal) (w : World) (hs : Rd w 4 encC (.slice A ln c) ds) (hn : ds.length ≤ 1073741824) :
    Calls Try.prog 50 #[.agg #[.slice A ln c], .agg #[.int .i64 v.k, .int .i64 v.n, .string v.s]] w fun e w' => ∃ u, e = .returned (.tuple #[.agg #[u], .int .i64 (allocAt ds)]) ∧ Own w' w.heap.size w'.heap.size 76 4 encC u (allocL ds v) ∧ Below w.heap.size w w' := by
  obtain rfl := hs.len_eq
  have hs1 : Rd (((w.alloc (.cells #[.slice A ds.length c] 54)).alloc (.cells #[.int .i64 v.k, .int .i64 v.n, .string v.s] 50)).alloc (.cells #[.slice none 0 0] 54)) 4 encC (.slice A ds.length c) ds := (by repeat (first | (with_reducible assumption) | (with_reducible refine Rd.drew ?_) | (with_reducible refine Rd.drewN ?_ _) | (with_reducible refine Rd.alloc ?_ _) | (exact Own.rd (fun _ => rfl) (by with_reducible assumption)) | (exact Sl.rd (by with_reducible assumption) (by first | omega | (· simp) | (· (simp; omega)))) | (refine Rd.below ?_ (by with_reducible assumption) ?_) | omega | (· simp) | (· (simp; omega))))
  go_enter Try.func50, Try.ntmps50
  go_wp2_with fail
  go_at_call 80
  refine (implCopy_any A ds.length c ds _ hs1 hn).mono ?_; rintro e w1 ⟨v1, rfl, ho1, hb1⟩
  obtain ⟨A1, n1, c1, rfl, HN1⟩ := ho1.form'
  have x0 : w1.cell? ⟨w.heap.size + 1, 0, none⟩ = some (.int .i64 v.k) := cell_below hb1 (cell_alloc (by have h := cell_new (w := w.alloc (.cells #[.slice A ds.length c] 54)) (cs := #[.int .i64 v.k, .int .i64 v.n, .string v.s]) (t := 50) (o := 0) (u := .int .i64 v.k) rfl; rw [World.size_alloc] at h; exact h) (by simp)) (by simp)
  have x1 : w1.cell? ⟨w.heap.size + 1, 1, none⟩ = some (.int .i64 v.n) := cell_below hb1 (cell_alloc (by have h := cell_new (w := w.alloc (.cells #[.slice A ds.length c] 54)) (cs := #[.int .i64 v.k, .int .i64 v.n, .string v.s]) (t := 50) (o := 1) (u := .int .i64 v.n) rfl; rw [World.size_alloc] at h; exact h) (by simp)) (by simp)
  have x2 : w1.cell? ⟨w.heap.size + 1, 2, none⟩ = some (.string v.s) := cell_below hb1 (cell_alloc (by have h := cell_new (w := w.alloc (.cells #[.slice A ds.length c] 54)) (cs := #[.int .i64 v.k, .int .i64 v.n, .string v.s]) (t := 50) (o := 2) (u := .string v.s) rfl; rw [World.size_alloc] at h; exact h) (by simp)) (by simp)
  have hz1 := hb1.size
  simp only [World.size_alloc] at hz1 ho1 hb1
  have g1 : w1.heap[w.heap.size + 1 + 1]? = some (.cells #[.slice none 0 0] 54 (0, 0)) := (hb1.block (w.heap.size + 1 + 1) (by simp)).trans (by simp only [heap_new, World.size_alloc]; simp)
  have y0 := cell_alloc (x := .cells #[.slice A1 n1 c1] 54) x0 (by omega)
  have y1 := cell_alloc (x := .cells #[.slice A1 n1 c1] 54) x1 (by omega)
  have y2 := cell_alloc (x := .cells #[.slice A1 n1 c1] 54) x2 (by omega)
  have hc1 : (w1.alloc (.cells #[.slice A1 n1 c1] 54)).cell? ⟨w1.heap.size, 0, none⟩ = some (.slice A1 n1 c1) := cell_new rfl
  go_wp2_with fail
  go_at_call 81
  refine (implAllocIn_any A1 n1 c1 (w.heap.size + 1 + 1 + 1) w1.heap.size (w.heap.size + 1 + 1 + 1) (w1.heap.size + 1) w1.heap.size ds v _ (by repeat (first | (with_reducible assumption) | (with_reducible refine Own.drew ?_) | (with_reducible refine Own.drewN ?_ _) | (with_reducible refine Own.alloc ?_ ?_ _) | (with_reducible refine Own.setCell ?_ ?_ _) | (refine Own.below ?_ (by with_reducible assumption) ?_) | (refine Own.kp ?_ (by with_reducible assumption) ?_) | omega | (· simp) | (· (simp; omega)))) hc1 frz_new (.inr (Nat.le_refl _)) (by simp) (by simp) (by simp; omega) (Nat.le_refl _) (by omega) (by omega) (by omega) hn).mono ?_
  rintro e w2 ⟨rfl, A2, n2, c2, hp2, hpf2, ho2, hk2⟩
  have hz2 := hk2.size
  simp only [World.size_alloc] at hz2
  have g2 := (hk2.block (w.heap.size + 1 + 1) (by first | omega | (· simp) | (· (simp; omega))) (.inl (by omega))).trans ((Below.heap_alloc w1 _ (w.heap.size + 1 + 1) (by first | omega | (· simp) | (· (simp; omega)))).trans g1)
  have f2 : ∀ j, w2.frozen? ⟨w.heap.size + 1 + 1, j, none⟩ = false := by intro j; simp [World.frozen?, g2]
  have k2 : w2.cell? ⟨w.heap.size + 1 + 1, 0, none⟩ = some (.slice none 0 0) := by simp [World.cell?, g2]
  go_wp2
  refine bodyPost_ret (ret_cell2 (cs := #[.slice A2 n2 c2]) (t := 54) (fr := (0, 0)) rfl rfl Try.underlying54 (by kernel_rfl) ?_) rfl ⟨_, rfl, ?_, ?_⟩
  · simp only [heap_set, g2]; simp [setAt]
  · exact (ho2.setCellAny (p := ⟨w.heap.size + 1 + 1, 0, none⟩) (.inl (by simp)) _).wider (by first | omega | (· simp) | (· (simp; omega))) (by first | omega | (· simp) | (· (simp; omega)))
  · have hB : Below w.heap.size w w1 := ((by exact (by repeat (first | (with_reducible refine Below.setCell ?_ (by first | omega | (· simp) | (· (simp; omega))) _) | (with_reducible refine Below.alloc ?_ (by first | omega | (· simp) | (· (simp; omega))) _) | (with_reducible refine Below.drew ?_) | (with_reducible refine bdrewN ?_ _) | (with_reducible exact Below.refl _ _) | (with_reducible assumption) | (with_reducible refine Below.trans ?_ (Below.mono (by assumption) (by first | omega | (· simp) | (· (simp; omega))))) | (with_reducible refine Below.trans ?_ (Kp.below (by assumption) (by first | omega | (· simp) | (· (simp; omega))) (by first | omega | (· simp) | (· (simp; omega))))))) : Below w.heap.size w _).trans (hb1.mono (by omega)))
    have hB2 : Below w.heap.size w w2 := (hB.alloc (by omega) _).trans (hk2.below (by first | omega | (· simp) | (· (simp; omega))) (by first | omega | (· simp) | (· (simp; omega))))
    exact (by repeat (first | (with_reducible refine Below.setCell ?_ (by first | omega | (· simp) | (· (simp; omega))) _) | (with_reducible refine Below.alloc ?_ (by first | omega | (· simp) | (· (simp; omega))) _) | (with_reducible refine Below.drew ?_) | (with_reducible refine bdrewN ?_ _) | (with_reducible exact Below.refl _ _) | (with_reducible assumption) | (with_reducible refine Below.trans ?_ (Below.mono (by assumption) (by first | omega | (· simp) | (· (simp; omega))))) | (with_reducible refine Below.trans ?_ (Kp.below (by assumption) (by first | omega | (· simp) | (· (simp; omega))) (by first | omega | (· simp) | (· (simp; omega)))))))
end Go.Proofs.Ytjgmdbhbnpafgaa
