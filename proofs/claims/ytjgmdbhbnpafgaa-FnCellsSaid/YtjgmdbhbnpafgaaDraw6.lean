/- A drawn heap and value; what 'big' says. -/
import Derived.Test.YtjgmdbhbnpafgaaDraw5
import Derived.Test.YtjgmdbhbnpafgaaAlloc3
namespace Go.Proofs.Ytjgmdbhbnpafgaa
open Go.RowKit

theorem big_any (A : Option Addr) (c : Nat) (bs : List UInt8) (w : World) (hs : Rd w 1 encB (.slice A bs.length c) bs) :
    Calls Try.prog 48 #[.slice A bs.length c] w fun e w' => e = .returned (.bool (decide (1048576 < bs.length))) ∧ Below w.heap.size w w' := by
  have hlen := hs.len_le
  go_enter Try.func48, Try.ntmps48
  go_wp2
  go_ret
  exact ⟨rb (by simp; omega), (by repeat (first | (with_reducible refine Below.setCell ?_ (by first | omega | (· simp) | (· (simp; omega))) _) | (with_reducible refine Below.alloc ?_ (by first | omega | (· simp) | (· (simp; omega))) _) | (with_reducible refine Below.drew ?_) | (with_reducible refine bdrewN ?_ _) | (with_reducible exact Below.refl _ _) | (with_reducible assumption) | (with_reducible refine Below.trans ?_ (Below.mono (by assumption) (by first | omega | (· simp) | (· (simp; omega))))) | (with_reducible refine Below.trans ?_ (Kp.below (by assumption) (by first | omega | (· simp) | (· (simp; omega))) (by first | omega | (· simp) | (· (simp; omega)))))))⟩
theorem ret_cc {P : Program} {fn : Func} {p u : Tmp} {ty t ty2 t2 : TypeId} {tmps : Array Value} {w : World} {b b2 : Nat} {cs cs2 : Array Value} {fr fr2 : Nat × Nat} {fs fs2 : Array Field}
    (h : fn.results = #[.cell p ty, .cell u ty2]) (ha : tmps.getD p undef = .pointer (some ⟨b, 0, none⟩)) (ha2 : tmps.getD u undef = .pointer (some ⟨b2, 0, none⟩)) (ht : P.underlying ty = some (.struct fs)) (ht2 : P.underlying ty2 = some (.struct fs2))
    (hc : (P.info? ty).map (·.size) = some cs.size) (hc2 : (P.info? ty2).map (·.size) = some cs2.size)
    (hg : w.heap[b]? = some (.cells cs t fr)) (hg2 : w.heap[b2]? = some (.cells cs2 t2 fr2)) : (results fn tmps).run P w = .ok (.tuple #[.agg cs, .agg cs2]) w := by
  have ha' : tmps[p]?.getD undef = .pointer (some ⟨b, 0, none⟩) := by simpa using ha
  have ha2' : tmps[u]?.getD undef = .pointer (some ⟨b2, 0, none⟩) := by simpa using ha2
  have hv := run_loadVar_row (P := P) w b t ty cs fr _ hg ht rfl hc
  have hv2 := run_loadVar_row (P := P) w b2 t2 ty2 cs2 fr2 _ hg2 ht2 rfl hc2
  simp only [results, h]
  simp [Sem.run_bind, Result.andThen, ha', ha2', asAddr, hv, hv2]
set_option maxRecDepth 100000 in
set_option maxHeartbeats 1000000 in
theorem drawHeap_any (A : Option Addr) (c : Nat) (bs : List UInt8) (w : World) (hs : Rd w 1 encB (.slice A bs.length c) bs) :
    Calls Try.prog 49 #[.slice A bs.length c] w fun e w' => ∃ u ds, ∃ v : GVal, e = .returned (.tuple #[.agg #[u], .agg #[.int .i64 v.k, .int .i64 v.n, .string v.s]]) ∧ Own w' w.heap.size w'.heap.size 76 4 encC u ds ∧ invH 0 ds ∧ okV v ∧ Below w.heap.size w w' := by
  have hs1 : Rd ((w.alloc (.cells #[.slice none 0 0] 54)).alloc (.cells #[.int .i64 0, .int .i64 0, .string ByteArray.empty] 50)) 1 encB (.slice A bs.length c) bs := (by repeat (first | (with_reducible assumption) | (with_reducible refine Rd.drew ?_) | (with_reducible refine Rd.drewN ?_ _) | (with_reducible refine Rd.alloc ?_ _) | (exact Own.rd (fun _ => rfl) (by with_reducible assumption)) | (exact Sl.rd (by with_reducible assumption) (by first | omega | (· simp) | (· (simp; omega)))) | (refine Rd.below ?_ (by with_reducible assumption) ?_) | omega | (· simp) | (· (simp; omega))))
  go_enter Try.func49, Try.ntmps49
  go_wp2_with fail
  go_at_call 77
  refine (l1New_any A c bs _ hs1).mono ?_; rintro e w1 ⟨b, rfl, hb, hc1, hb1⟩
  have hz1 := hb1.size
  simp only [World.size_alloc] at hz1 hb hb1
  have hB : Below w.heap.size w w1 := ((by exact (by repeat (first | (with_reducible refine Below.setCell ?_ (by first | omega | (· simp) | (· (simp; omega))) _) | (with_reducible refine Below.alloc ?_ (by first | omega | (· simp) | (· (simp; omega))) _) | (with_reducible refine Below.drew ?_) | (with_reducible refine bdrewN ?_ _) | (with_reducible exact Below.refl _ _) | (with_reducible assumption) | (with_reducible refine Below.trans ?_ (Below.mono (by assumption) (by first | omega | (· simp) | (· (simp; omega))))) | (with_reducible refine Below.trans ?_ (Kp.below (by assumption) (by first | omega | (· simp) | (· (simp; omega))) (by first | omega | (· simp) | (· (simp; omega))))))) : Below w.heap.size w _).trans (hb1.mono (by omega)))
  have g1 : w1.heap[w.heap.size]? = some (.cells #[.slice none 0 0] 54 (0, 0)) := (hb1.block _ (by omega)).trans ((Below.heap_alloc _ _ _ (by simp)).trans (heap_alloc_new w _))
  have g1' : w1.heap[w.heap.size + 1]? = some (.cells #[.int .i64 0, .int .i64 0, .string ByteArray.empty] 50 (0, 0)) := (hb1.block _ (by omega)).trans (by simp only [heap_new, World.size_alloc]; simp)
  go_wp2_with fail
  go_at_call 78
  refine (l20Draw_any b _ hc1).mono ?_; rintro e w2 ⟨u, ds, rfl, ho2, hinv, hc2, hk2⟩
  have hz2 := hk2.size
  have g2 := (hk2.block w.heap.size (by omega) (.inl (by omega))).trans g1
  have g2' := (hk2.block (w.heap.size + 1) (by omega) (.inl (by omega))).trans g1'
  go_wp2_with fail
  go_at_call 79
  refine (l2Draw_any b _ hc2).mono ?_; rintro e w3 ⟨v, rfl, hv, hc3, hk3⟩
  have hz3 := hk3.size
  have g3 := (hk3.block w.heap.size (by omega) (.inl (by omega))).trans g2
  have g3' := (hk3.block (w.heap.size + 1) (by omega) (.inl (by omega))).trans g2'
  have hbl := hc1.1
  have ho3 := (ho2.kp hk3 (.inr (by omega))).wider (lo' := w.heap.size + 1 + 1) (by omega) hz3
  have f3 : ∀ j, w3.frozen? ⟨w.heap.size, j, none⟩ = false := by intro j; simp [World.frozen?, g3]
  have f3' : ∀ j, w3.frozen? ⟨w.heap.size + 1, j, none⟩ = false := by intro j; simp [World.frozen?, g3']
  have k3 : w3.cell? ⟨w.heap.size, 0, none⟩ = some (.slice none 0 0) := by rw [cell_of_row _ _ _ _ _ _ g3]; rfl
  have k30 : w3.cell? ⟨w.heap.size + 1, 0, none⟩ = some (.int .i64 0) := by rw [cell_of_row _ _ _ _ _ _ g3']; rfl
  have k31 : w3.cell? ⟨w.heap.size + 1, 1, none⟩ = some (.int .i64 0) := by rw [cell_of_row _ _ _ _ _ _ g3']; rfl
  have k32 : w3.cell? ⟨w.heap.size + 1, 2, none⟩ = some (.string ByteArray.empty) := by rw [cell_of_row _ _ _ _ _ _ g3']; rfl
  obtain ⟨A3, n3, c3, rfl, HN3⟩ := ho3.form'
  go_wp2
  refine bodyPost_ret (ret_cc (cs := #[.slice A3 n3 c3]) (cs2 := #[.int .i64 v.k, .int .i64 v.n, .string v.s]) (t := 54) (fr := (0, 0)) (t2 := 50) (fr2 := (0, 0)) rfl rfl rfl Try.underlying54 Try.underlying50 (by kernel_rfl) (by kernel_rfl) ?_ ?_) rfl ⟨_, ds, v, rfl, ?_, hinv, hv, ?_⟩
  · simp only [heap_set, g3]; simp [setAt]
  · simp only [heap_set, g3']; simp [setAt]
  · exact ((((ho3.setCellAny (p := ⟨w.heap.size, 0, none⟩) (.inl (by simp; omega)) _).setCellAny (p := ⟨w.heap.size + 1, 0, none⟩) (.inl (by simp)) _).setCellAny (p := ⟨w.heap.size + 1, 1, none⟩) (.inl (by simp)) _).setCellAny (p := ⟨w.heap.size + 1, 2, none⟩) (.inl (by simp)) _).wider (by omega) (by simp)
  · have hB2 : Below w.heap.size w w3 := hB.trans ((hk2.trans hk3).below (by omega) (by omega))
    exact (by repeat (first | (with_reducible refine Below.setCell ?_ (by first | omega | (· simp) | (· (simp; omega))) _) | (with_reducible refine Below.alloc ?_ (by first | omega | (· simp) | (· (simp; omega))) _) | (with_reducible refine Below.drew ?_) | (with_reducible refine bdrewN ?_ _) | (with_reducible exact Below.refl _ _) | (with_reducible assumption) | (with_reducible refine Below.trans ?_ (Below.mono (by assumption) (by first | omega | (· simp) | (· (simp; omega))))) | (with_reducible refine Below.trans ?_ (Kp.below (by assumption) (by first | omega | (· simp) | (· (simp; omega))) (by first | omega | (· simp) | (· (simp; omega)))))))
theorem implAlloc_hid (A : Option Addr) (ln c : Nat) (ds : List GCell) (v : GVal) (w : World) (hs : Rd w 4 encC (.slice A ln c) ds) (hn : ds.length ≤ 1073741824) :
    Calls Try.prog 50 #[.agg #[.slice A ln c], .agg #[.int .i64 v.k, .int .i64 v.n, .string v.s]] w fun e w' => ∃ xs, ∃ kk : Nat, ∃ u, Hid (allocL ds v = xs) ∧ Hid (allocAt ds = kk) ∧ e = .returned (.tuple #[.agg #[u], .int .i64 kk]) ∧ Own w' w.heap.size w'.heap.size 76 4 encC u xs ∧ Below w.heap.size w w' :=
  (implAlloc_any A ln c ds v w hs hn).mono fun e w' ⟨u, h1, h2, h3⟩ => ⟨_, _, u, rfl, rfl, h1, h2, h3⟩
end Go.Proofs.Ytjgmdbhbnpafgaa
