/- The type Heap, and slices of it: shape; the laws' own functions. -/
import Derived.Test.YtfnnbjkjfoiboaaFamCell
import Derived.Deep.RegionHeld3
namespace Go.Proofs.Ytfnnbjkjfoiboaa
open Go.RowKit

theorem shape_laws_Heap {e : E} (h : e.Ty Try.prog 24) : ∃ (x0A : Option Addr) (x0c : Nat) (x0l : List E), e = (E.agg [.lst 4 155 x0A x0c x0l]) ∧ ((∀ y ∈ x0l, y.Ty Try.prog 155) ∧ (∀ y ∈ x0l, y.enc.length = 4)) ∧ True := by
  obtain ⟨fs, rfl, q0⟩ := h.agg_ Try.underlying24
  change E.TyF _ _ [22] at q0
  obtain ⟨e0, r0, rfl, h0, q1⟩ := q0.cons_
  obtain rfl := q1.nil_
  obtain ⟨x0A, x0c, x0l, rfl, gx0, gx0'⟩ := h0.lst_ Try.underlying22 (k := 4) (by kernel_rfl)
  exact ⟨x0A, x0c, x0l, rfl, ⟨gx0, gx0'⟩, trivial⟩
theorem shape_impl_Heap {e : E} (h : e.Ty Try.prog 31) : ∃ (x0A : Option Addr) (x0c : Nat) (x0l : List E), e = (E.agg [.lst 4 58 x0A x0c x0l]) ∧ ((∀ y ∈ x0l, y.Ty Try.prog 58) ∧ (∀ y ∈ x0l, y.enc.length = 4)) ∧ True := by
  obtain ⟨fs, rfl, q0⟩ := h.agg_ Try.underlying31
  change E.TyF _ _ [29] at q0
  obtain ⟨e0, r0, rfl, h0, q1⟩ := q0.cons_
  obtain rfl := q1.nil_
  obtain ⟨x0A, x0c, x0l, rfl, gx0, gx0'⟩ := h0.lst_ Try.underlying29 (k := 4) (by kernel_rfl)
  exact ⟨x0A, x0c, x0l, rfl, ⟨gx0, gx0'⟩, trivial⟩
set_option maxRecDepth 100000 in
set_option maxHeartbeats 1000000 in
theorem szHeap_all {e : E} (ht : e.Ty Try.prog 24) : Sz 15 e := by
  obtain ⟨x0A, x0c, x0l, rfl, gx0, -⟩ := shape_laws_Heap ht
  intro left w hr h0 h1
  have HSZ : Hid ((E.agg [.lst 4 155 x0A x0c x0l]).sz = ((E.lst 4 155 x0A x0c x0l).sz + 0)) := rfl
  change Calls _ _ #[.agg #[.slice x0A x0l.length x0c], .int .i64 left] w _
  have hr0 := (hr.fld (i := 0) rfl).alloc (.cells #[.slice x0A x0l.length x0c] 24)
  go_enter Try.func15, Try.ntmps15
  go_wp2_with fail
  go_at_call 68
  refine ((szCellS_all (E.Ty.mk_lst Try.underlying22 (by kernel_rfl) gx0.1 gx0.2)) _ _ hr0 (by omega) (by omega)).mono ?_; rintro e w1 ⟨r1, rfl, hr1s, hl1, hb1⟩
  have hz1 := hb1.size; (try simp only [World.size_alloc] at hz1)
  by_cases hn1 : r1 < 0
  · go_wp2
    go_ret
    exact ⟨-1, rfl, .inl (by omega), by omega, by exact (by repeat (first | (with_reducible refine Below.setCell ?_ (by first | omega | (· simp) | (· (simp; omega))) _) | (with_reducible refine Below.alloc ?_ (by first | omega | (· simp) | (· (simp; omega))) _) | (with_reducible refine Below.drew ?_) | (with_reducible refine bdrewN ?_ _) | (with_reducible exact Below.refl _ _) | (with_reducible assumption) | (with_reducible refine Below.trans ?_ (Below.mono (by assumption) (by first | omega | (· simp) | (· (simp; omega))))) | (with_reducible refine Below.trans ?_ (Kp.below (by assumption) (by first | omega | (· simp) | (· (simp; omega))) (by first | omega | (· simp) | (· (simp; omega)))))))⟩
  have hq1 := hr1s.resolve_left hn1
  go_wp2
  go_ret
  refine ⟨_, rfl, .inr ?_, by omega, by exact (by repeat (first | (with_reducible refine Below.setCell ?_ (by first | omega | (· simp) | (· (simp; omega))) _) | (with_reducible refine Below.alloc ?_ (by first | omega | (· simp) | (· (simp; omega))) _) | (with_reducible refine Below.drew ?_) | (with_reducible refine bdrewN ?_ _) | (with_reducible exact Below.refl _ _) | (with_reducible assumption) | (with_reducible refine Below.trans ?_ (Below.mono (by assumption) (by first | omega | (· simp) | (· (simp; omega))))) | (with_reducible refine Below.trans ?_ (Kp.below (by assumption) (by first | omega | (· simp) | (· (simp; omega))) (by first | omega | (· simp) | (· (simp; omega)))))))⟩
  show _ = _
  rw [HSZ.out]
  have e1 := hq1.out
  push_cast
  omega
set_option maxRecDepth 100000 in
set_option maxHeartbeats 1000000 in
theorem toHeap_all {e : E} (ht : e.Ty Try.prog 24) : To 18 31 e := by
  have HT0 := Lib.hid ht
  obtain ⟨x0A, x0c, x0l, rfl, gx0, -⟩ := shape_laws_Heap ht
  intro w hr hsz
  have hsz' : ((E.lst 4 155 x0A x0c x0l).sz + 0) ≤ 1048576 := hsz
  have hs0 : (E.lst 4 155 x0A x0c x0l).sz ≤ 1048576 := by omega
  clear hsz hsz'
  have hr0 := hr.fld (i := 0) rfl
  have ty0 : (E.lst 4 155 x0A x0c x0l).Ty Try.prog 22 := E.Ty.mk_lst Try.underlying22 (by kernel_rfl) gx0.1 gx0.2
  have HC0 := Lib.hid (toCellS_all ty0)
  clear ty0
  change Calls _ _ #[.agg #[.slice x0A x0l.length x0c]] w _
  go_enter Try.func18, Try.ntmps18
  go_wp2_with fail
  go_at_call 71
  refine (HC0.out _ (((hr0.alloc _).alloc _).alloc _) hs0).mono ?_; rintro e w1 ⟨v1, he, HD1, ht1, ho1, hn1, hb1⟩
  have HT1 := Lib.hid ht1
  have HN1 := Lib.hid hn1
  obtain ⟨A1, q1, l1, rfl, -, -⟩ := ht1.lst_ Try.underlying29 (k := 4) (by kernel_rfl)
  obtain rfl : e = .returned (.slice A1 l1.length q1) := he
  clear hn1 ht1
  have B0_1 : w1.heap[w.heap.size]? = some (.cells #[.slice x0A x0l.length x0c] 24 (0, 0)) := (hb1.block (w.heap.size) (by simp; omega)).trans three.1
  have B1_1 : w1.heap[w.heap.size + 1]? = some (.cells #[.slice none 0 0] 31 (0, 0)) := (hb1.block (w.heap.size + 1) (by simp)).trans three.2.1
  have B2_1 : w1.heap[w.heap.size + 1 + 1]? = some (.cells #[.slice none 0 0] 31 (0, 0)) := (hb1.block (w.heap.size + 1 + 1) (by simp)).trans three.2.2
  have hz1 := hb1.size; simp only [World.size_alloc] at hz1
  have hB1 : Below w.heap.size w w1 := (by exact (by repeat (first | (with_reducible refine Below.setCell ?_ (by first | omega | (· simp) | (· (simp; omega))) _) | (with_reducible refine Below.alloc ?_ (by first | omega | (· simp) | (· (simp; omega))) _) | (with_reducible refine Below.drew ?_) | (with_reducible refine bdrewN ?_ _) | (with_reducible exact Below.refl _ _) | (with_reducible assumption) | (with_reducible refine Below.trans ?_ (Below.mono (by assumption) (by first | omega | (· simp) | (· (simp; omega))))) | (with_reducible refine Below.trans ?_ (Kp.below (by assumption) (by first | omega | (· simp) | (· (simp; omega))) (by first | omega | (· simp) | (· (simp; omega))))))) : Below w.heap.size w _).trans (hb1.mono (by simp; omega))
  have ho1 := ho1.wider (lo' := w.heap.size + 1 + 1 + 1) (by simp) (Nat.le_refl _)
  have c1_0 : w1.cell? ⟨w.heap.size, 0, none⟩ = some (.slice x0A x0l.length x0c) := cell_of B0_1 rfl
  have d1_0 : w1.cell? ⟨w.heap.size + 1 + 1, 0, none⟩ = some (.slice none 0 0) := cell_of B2_1 rfl
  have f1 := frz_of B2_1
  have r0' := cell_of B1_1 (o := 0) rfl
  have fr' := frz_of B1_1
  go_wp2
  have OWN : Owns w1 (w.heap.size + 1 + 1 + 1) w1.heap.size [(E.lst 4 58 A1 q1 l1)] := (Owns.cons (mid := w1.heap.size) ho1 HN1.out Owns.nil (by omega) (by omega))
  refine bodyPost_ret (v := .agg #[.slice A1 l1.length q1]) (ret_cell (t := 31) (fr := (0, 0)) rfl rfl Try.underlying31 (by kernel_rfl) ?_) rfl ⟨(E.agg [(E.lst 4 58 A1 q1 l1)]), rfl, ?_, E.Ty.mk_agg Try.underlying31 (E.TyF.mk_cons HT1.out (E.TyF.mk_nil)), ?_, ?_, ?_⟩
  · simp only [heap_set, B1_1, B2_1]; simp [setAt]
  · show E.d _ = E.d _
    simp only [E.d, E.dL]
    have y1 := HD1.out; simp only [E.d, E.dL] at y1
    simp only [E.agg.injEq, List.cons.injEq, E.lst.injEq, E.int.injEq, E.str.injEq, E.bool.injEq, true_and, and_true] at *
    simp [*]
  · exact ((E.Ho.mk_agg OWN.1).kp (lo' := w.heap.size + 1) (hi' := w.heap.size + 1 + 1 + 1) (by repeat (first | (with_reducible exact Kp.refl _ _ _) | (refine Kp.set ?_ (by first | omega | (dsimp only; omega) | (simp; omega)) (by first | omega | (dsimp only; omega) | (simp; omega)) _))) (.inr (by omega))).wider (by omega) (by simp)
  · exact OWN.2
  · exact hB1.trans (Kp.below (lo := w.heap.size + 1) (hi := w.heap.size + 1 + 1 + 1) (by repeat (first | (with_reducible exact Kp.refl _ _ _) | (refine Kp.set ?_ (by first | omega | (dsimp only; omega) | (simp; omega)) (by first | omega | (dsimp only; omega) | (simp; omega)) _))) (by omega) (by omega))
set_option maxRecDepth 100000 in
set_option maxHeartbeats 1000000 in
theorem eqHeap_all {e e' : E} (ht : e.Ty Try.prog 31) (ht' : e'.Ty Try.prog 31) : Eq 21 e e' := by
  obtain ⟨x0A, x0c, x0l, rfl, gx0, -⟩ := shape_impl_Heap ht
  obtain ⟨y0A, y0c, y0l, rfl, gy0, -⟩ := shape_impl_Heap ht'
  intro hd w hr hr'
  simp only [E.d, E.dL, E.agg.injEq, List.cons.injEq, E.int.injEq, E.str.injEq, E.bool.injEq, E.lst.injEq, true_and, and_true] at hd
  have hd0 := hd
  clear hd
  have hr0 := ((hr.fld (i := 0) rfl).alloc (.cells #[.slice x0A x0l.length x0c] 31)).alloc (.cells #[.slice y0A y0l.length y0c] 31)
  have hs0 := ((hr'.fld (i := 0) rfl).alloc (.cells #[.slice x0A x0l.length x0c] 31)).alloc (.cells #[.slice y0A y0l.length y0c] 31)
  have t0 : (E.lst 4 58 x0A x0c x0l).Ty Try.prog 29 := E.Ty.mk_lst Try.underlying29 (by kernel_rfl) gx0.1 gx0.2
  have u0 : (E.lst 4 58 y0A y0c y0l).Ty Try.prog 29 := E.Ty.mk_lst Try.underlying29 (by kernel_rfl) gy0.1 gy0.2
  have HC0 := Lib.hid (eqCellS_all t0 u0 (by simp only [E.d, E.dL, E.agg.injEq, List.cons.injEq, E.int.injEq, E.str.injEq, E.bool.injEq, E.lst.injEq, true_and, and_true]; exact hd0))
  clear t0 u0
  clear hd0
  change Calls _ _ #[.agg #[.slice x0A x0l.length x0c], .agg #[.slice y0A y0l.length y0c]] w _
  go_enter Try.func21, Try.ntmps21
  go_wp2_with fail
  go_at_call 74
  refine (HC0.out _ hr0 hs0).mono ?_; rintro e w1 ⟨rfl, hb1⟩
  have hz1 := hb1.size; (try simp only [World.size_alloc] at hz1)
  go_wp2
  go_ret
  exact ⟨rfl, (by repeat (first | (with_reducible refine Below.setCell ?_ (by first | omega | (· simp) | (· (simp; omega))) _) | (with_reducible refine Below.alloc ?_ (by first | omega | (· simp) | (· (simp; omega))) _) | (with_reducible refine Below.drew ?_) | (with_reducible refine bdrewN ?_ _) | (with_reducible exact Below.refl _ _) | (with_reducible assumption) | (with_reducible refine Below.trans ?_ (Below.mono (by assumption) (by first | omega | (· simp) | (· (simp; omega))))) | (with_reducible refine Below.trans ?_ (Kp.below (by assumption) (by first | omega | (· simp) | (· (simp; omega))) (by first | omega | (· simp) | (· (simp; omega)))))))⟩
set_option maxRecDepth 100000 in
set_option maxHeartbeats 1000000 in
theorem markHeap_all {e : E} (ht : e.Ty Try.prog 31) : Mar 22 e := by
  obtain ⟨x0A, x0c, x0l, rfl, gx0, -⟩ := shape_impl_Heap ht
  have ty0 : (E.lst 4 58 x0A x0c x0l).Ty Try.prog 29 := E.Ty.mk_lst Try.underlying29 (by kernel_rfl) gx0.1 gx0.2
  have HC0 := Lib.hid (markCellS_all ty0)
  clear ty0
  intro lo hi k0 w ho hnd hhi h0 h1
  have HCN : Hid ((E.agg [.lst 4 58 x0A x0c x0l]).cnt = ((E.lst 4 58 x0A x0c x0l).cnt + 0)) := rfl
  have h1' := h1
  rw [HCN.out] at h1'
  clear h1
  change (E.fpL [(E.lst 4 58 x0A x0c x0l)]).Nodup at hnd
  have ho0 := (ho.fld (i := 0) rfl).alloc hhi (.cells #[.slice x0A x0l.length x0c] 31)
  have HN0 := Lib.hid (nodup_mem hnd (show (E.lst 4 58 x0A x0c x0l) ∈ [(E.lst 4 58 x0A x0c x0l)] by simp))
  have HS0 := Lib.hid (fun b (hb : b ∈ (E.lst 4 58 x0A x0c x0l).fp) => (E.mem_fpL.2 ⟨_, (show (E.lst 4 58 x0A x0c x0l) ∈ [(E.lst 4 58 x0A x0c x0l)] by simp), hb⟩ : b ∈ E.fpL [(E.lst 4 58 x0A x0c x0l)]))
  clear hnd ho
  change Calls _ _ #[.agg #[.slice x0A x0l.length x0c], .int .i64 k0] w _
  go_enter Try.func22, Try.ntmps22
  go_wp2_with fail
  go_at_call 75
  refine (HC0.out lo hi _ _ ho0 HN0.out (by first | omega | (simp; omega)) (by omega) (by omega)).mono ?_; rintro e w1 ⟨rfl, hm0, hf1⟩
  have hz1 := hf1.size; (try simp only [World.size_alloc] at hz1)
  have B1 : w1.heap[w.heap.size]? = some (.cells #[.slice x0A x0l.length x0c] 31 (0, 0)) := (hf1.block w.heap.size (by first | omega | simp) (fun hm => by have := ho0.lt _ hm; omega)).trans (heap_alloc_new w _)
  go_wp2
  go_ret
  exact ⟨ri (by have := HCN.out; omega), E.Ho.mk_agg (E.HoL.mk_cons (ho_cast hm0 (by first | rfl | omega | (show _ = _; simp only [E.cnt, E.cntL, E.cntc, E.cntcL, reduceCtorEq, if_false, if_true, ite_false]; omega))) (show E.HoL _ _ _ [] by simp only [E.HoL])), ((Fr.of_below ((Below.refl _ _).alloc (Nat.le_refl _) _)).trans (hf1.sub HS0.out))⟩
set_option maxRecDepth 100000 in
set_option maxHeartbeats 1000000 in
theorem heldHeap_all {e : E} (ht : e.Ty Try.prog 31) : Hel 23 e := by
  obtain ⟨x0A, x0c, x0l, rfl, gx0, -⟩ := shape_impl_Heap ht
  have ty0 : (E.lst 4 58 x0A x0c x0l).Ty Try.prog 29 := E.Ty.mk_lst Try.underlying29 (by kernel_rfl) gx0.1 gx0.2
  have HC0 := Lib.hid (heldCellS_all ty0)
  clear ty0
  intro k0 w hr h0 h1
  have HCN : Hid ((E.agg [.lst 4 58 x0A x0c x0l]).cnt = ((E.lst 4 58 x0A x0c x0l).cnt + 0)) := rfl
  have h1' := h1
  rw [HCN.out] at h1'
  clear h1
  have hr0 := (E.In.fld (i := 0) hr rfl).alloc (.cells #[.slice x0A x0l.length x0c] 31)
  change Calls _ _ #[.agg #[.slice x0A x0l.length x0c], .int .i64 k0] w _
  go_enter Try.func23, Try.ntmps23
  go_wp2_with fail
  go_at_call 76
  refine (HC0.out _ _ (in_cast hr0 (by first | rfl | omega | (show _ = _; simp only [E.cnt, E.cntL, E.cntc, E.cntcL, reduceCtorEq, if_false, if_true, ite_false]; omega))) (by omega) (by omega)).mono ?_; rintro e w1 ⟨rfl, hb1⟩
  have hz1 := hb1.size; (try simp only [World.size_alloc] at hz1)
  go_wp2
  go_ret
  exact ⟨ri (by have := HCN.out; omega), by exact (by repeat (first | (with_reducible refine Below.setCell ?_ (by first | omega | (· simp) | (· (simp; omega))) _) | (with_reducible refine Below.alloc ?_ (by first | omega | (· simp) | (· (simp; omega))) _) | (with_reducible refine Below.drew ?_) | (with_reducible refine bdrewN ?_ _) | (with_reducible exact Below.refl _ _) | (with_reducible assumption) | (with_reducible refine Below.trans ?_ (Below.mono (by assumption) (by first | omega | (· simp) | (· (simp; omega))))) | (with_reducible refine Below.trans ?_ (Kp.below (by assumption) (by first | omega | (· simp) | (· (simp; omega))) (by first | omega | (· simp) | (· (simp; omega)))))))⟩
end Go.Proofs.Ytfnnbjkjfoiboaa
