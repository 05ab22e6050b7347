/- The law FnExactAlloc, walked. -/
import Derived.Test.YtfnnbjkjfoiboaaAllocU
import Derived.Deep.RegionHeld3
import Derived.Deep.DeepCutAuto
namespace Go.Proofs.Ytfnnbjkjfoiboaa
open Go.RowKit

set_option maxRecDepth 100000 in
set_option maxHeartbeats 8000000 in
theorem alloc_law (w : World) {a0 : E} (ta0 : a0.Ty Try.prog 24) (ra0 : a0.In w) {a1 : E} (ta1 : a1.Ty Try.prog 26) (ra1 : a1.In w) :
    Calls Try.prog 3 #[a0.val, a1.val] w fun e w' => e = .returned (.bool true) ∧ Below w.heap.size w w' := by
  have TA0 := Lib.hid ta0
  obtain ⟨D0, HDa0⟩ : ∃ D : E, Hid (a0.d = D) := ⟨_, rfl⟩
  obtain ⟨a0_0A, a0_0c, a0_0l, rfl, ga0_0, -⟩ := shape_laws_Heap ta0
  have TA1 := Lib.hid ta1
  obtain ⟨D1, HDa1⟩ : ∃ D : E, Hid (a1.d = D) := ⟨_, rfl⟩
  obtain ⟨a1_0, a1_1, a1_2, rfl, ga1_0, ga1_1, ga1_2, -⟩ := shape_laws_Val ta1
  change Calls _ _ #[.agg #[.slice a0_0A a0_0l.length a0_0c], .agg #[.int .i64 a1_0, .int .i64 a1_1, .string a1_2]] w _
  go_enter Try.func3, Try.ntmps3
  go_upto_region 0 with fail
  go_cut [2, 3, 4] (fun s2 s3 s4 wx => ∃ (g0 : Nat) (g1 : Nat), s2 = .pointer (some ⟨g0, 0, none⟩) ∧ s3 = .pointer (some ⟨g1, 0, none⟩) ∧ s4 = .bool false ∧ wx.heap[g0]? = some (.cells #[.slice a0_0A a0_0l.length a0_0c] 24 (0, 0)) ∧ w.heap.size ≤ g0 ∧ wx.heap[g1]? = some (.cells #[.int .i64 a1_0, .int .i64 a1_1, .string a1_2] 26 (0, 0)) ∧ w.heap.size ≤ g1 ∧ Below w.heap.size w wx)
  case first =>
    go_wp2_with fail
    go_meet
    refine ⟨_, _, rfl, rfl, rfl, ?_, ?_, ?_, ?_, ?_⟩
    · (repeat (first | (with_reducible assumption) | (with_reducible refine hp_drew ?_) | (with_reducible refine hp_drewN ?_) | (refine hp_new ?_; first | rfl | (simp; done)) | (with_reducible refine hp_alloc ?_ ?_) | (refine hp_below (by with_reducible assumption) ?_ ?_) | omega | (· simp) | (· (simp; omega))))
    · first | omega | (simp; done) | (simp; omega)
    · (repeat (first | (with_reducible assumption) | (with_reducible refine hp_drew ?_) | (with_reducible refine hp_drewN ?_) | (refine hp_new ?_; first | rfl | (simp; done)) | (with_reducible refine hp_alloc ?_ ?_) | (refine hp_below (by with_reducible assumption) ?_ ?_) | omega | (· simp) | (· (simp; omega))))
    · first | omega | (simp; done) | (simp; omega)
    · exact (by repeat (first | (with_reducible refine Below.setCell ?_ (by first | omega | (· simp) | (· (simp; omega))) _) | (with_reducible refine Below.alloc ?_ (by first | omega | (· simp) | (· (simp; omega))) _) | (with_reducible refine Below.drew ?_) | (with_reducible refine bdrewN ?_ _) | (with_reducible exact Below.refl _ _) | (with_reducible assumption) | (with_reducible refine Below.trans ?_ (Below.mono (by assumption) (by first | omega | (· simp) | (· (simp; omega))))) | (with_reducible refine Below.trans ?_ (Kp.below (by assumption) (by first | omega | (· simp) | (· (simp; omega))) (by first | omega | (· simp) | (· (simp; omega)))))))
  case rest =>
    obtain ⟨g0, g1, rfl, rfl, rfl, B1_0, lb0, B1_1, lb1, hb1⟩ := hcut
    obtain ⟨W1, hWeq⟩ : ∃ W : World, W = wc := ⟨_, rfl⟩
    subst hWeq
    have hs1 := hb1.size
    have lu0 := blk_lt B1_0
    have lu1 := blk_lt B1_1
    have RA1_0 : (E.agg [.lst 4 155 a0_0A a0_0c a0_0l]).Re W1 0 w.heap.size := (show (E.agg [.lst 4 155 a0_0A a0_0c a0_0l]).Re w 0 w.heap.size from ra0).below hb1 (by omega)
    have RA1_1 : (E.agg [.int .i64 a1_0, .int .i64 a1_1, .str a1_2]).Re W1 0 w.heap.size := (show (E.agg [.int .i64 a1_0, .int .i64 a1_1, .str a1_2]).Re w 0 w.heap.size from ra1).below hb1 (by omega)
    have hB1 : Below w.heap.size w W1 := hb1
    go_upto_region 2 with fail
    go_cut [5] (fun s5 wx => ∃ (r1 : Int), s5 = .int .i64 r1 ∧ (r1 < 0 ∨ Hid (r1 + (E.agg [.lst 4 155 a0_0A a0_0c a0_0l]).sz = 1048576)) ∧ r1 ≤ 1048576 ∧ Below W1.heap.size W1 wx)
    case first =>
      have hwW := hB1.size
      have ltW0 : g0 < W1.heap.size := by omega
      clear hs1 lu0 lb0 lu1 lb1
      clear B1_1
      have z0_0_0 : W1.cell? ⟨g0, 0, none⟩ = some (.slice a0_0A a0_0l.length a0_0c) := cell_of B1_0 rfl
      go_wp2_with fail
      go_at_call 15
      refine (szHeap_all TA0.out _ _ (by have h : (E.agg [.lst 4 155 a0_0A a0_0c a0_0l]).In W1 := E.Re.inn RA1_0 (by omega); exact (by repeat (first | (with_reducible assumption) | (with_reducible refine E.In.drew ?_) | (with_reducible refine E.In.drewN ?_ _) | (with_reducible refine E.In.alloc ?_ _) | (refine E.In.below ?_ (by with_reducible assumption) ?_) | omega | (· simp) | (· (simp; omega))))) (by omega) (by omega)).mono ?_; rintro e w1 ⟨r1, rfl, hr1, hl1, hb1⟩
      go_wp2_with fail
      go_meet
      refine ⟨r1, rfl, ?_, ?_, ?_⟩
      · exact hr1
      · exact hl1
      · exact (by repeat (first | (with_reducible refine Below.setCell ?_ (by first | omega | (· simp) | (· (simp; omega))) _) | (with_reducible refine Below.alloc ?_ (by first | omega | (· simp) | (· (simp; omega))) _) | (with_reducible refine Below.drew ?_) | (with_reducible refine bdrewN ?_ _) | (with_reducible exact Below.refl _ _) | (with_reducible assumption) | (with_reducible refine Below.trans ?_ (Below.mono (by assumption) (by first | omega | (· simp) | (· (simp; omega))))) | (with_reducible refine Below.trans ?_ (Kp.below (by assumption) (by first | omega | (· simp) | (· (simp; omega))) (by first | omega | (· simp) | (· (simp; omega)))))))
    case rest =>
      obtain ⟨r1, rfl, hr1, hl1, hb2⟩ := hcut
      obtain ⟨W2, hWeq⟩ : ∃ W : World, W = wc := ⟨_, rfl⟩
      subst hWeq
      have hs2 := hb2.size
      have B2_0 := (hb2.block g0 (by omega)).trans B1_0
      clear B1_0
      have B2_1 := (hb2.block g1 (by omega)).trans B1_1
      clear B1_1
      have RA2_0 : (E.agg [.lst 4 155 a0_0A a0_0c a0_0l]).Re W2 0 w.heap.size := RA1_0.below hb2 (by omega)
      clear RA1_0
      have RA2_1 : (E.agg [.int .i64 a1_0, .int .i64 a1_1, .str a1_2]).Re W2 0 w.heap.size := RA1_1.below hb2 (by omega)
      clear RA1_1
      have hB2 : Below w.heap.size w W2 := hB1.trans (hb2.mono (by omega))
      by_cases hn1 : r1 < 0
      · go_wp2
        go_ret
        exact ⟨rfl, hB2⟩
      have HR1 := hr1.resolve_left hn1
      clear hr1
      have hz1 : (E.agg [.lst 4 155 a0_0A a0_0c a0_0l]).sz ≤ 1048576 := by have := HR1.out; omega
      have hD0 : D0.sz ≤ 1048576 := by rw [← HDa0.out, E.sz_d]; exact hz1
      go_upto_region 5 with fail
      go_cut [5] (fun s5 wx => ∃ (r2 : Int), s5 = .int .i64 r2 ∧ (r2 < 0 ∨ Hid (r2 + (E.agg [.int .i64 a1_0, .int .i64 a1_1, .str a1_2]).sz = r1)) ∧ r2 ≤ r1 ∧ Below W2.heap.size W2 wx)
      case first =>
        have hwW := hB2.size
        have ltW1 : g1 < W2.heap.size := by omega
        clear hs1 lu0 lb0 lu1 lb1 hs2
        clear B2_0
        have z0_1_0 : W2.cell? ⟨g1, 0, none⟩ = some (.int .i64 a1_0) := cell_of B2_1 rfl
        have z0_1_1 : W2.cell? ⟨g1, 1, none⟩ = some (.int .i64 a1_1) := cell_of B2_1 rfl
        have z0_1_2 : W2.cell? ⟨g1, 2, none⟩ = some (.string a1_2) := cell_of B2_1 rfl
        go_wp2_with fail
        go_at_call 16
        refine (szVal_all TA1.out _ _ (by have h : (E.agg [.int .i64 a1_0, .int .i64 a1_1, .str a1_2]).In W2 := E.Re.inn RA2_1 (by omega); exact (by repeat (first | (with_reducible assumption) | (with_reducible refine E.In.drew ?_) | (with_reducible refine E.In.drewN ?_ _) | (with_reducible refine E.In.alloc ?_ _) | (refine E.In.below ?_ (by with_reducible assumption) ?_) | omega | (· simp) | (· (simp; omega))))) (by omega) (by omega)).mono ?_; rintro e w2 ⟨r2, rfl, hr2, hl2, hb2⟩
        go_wp2_with fail
        go_meet
        refine ⟨r2, rfl, ?_, ?_, ?_⟩
        · exact hr2
        · exact hl2
        · exact (by repeat (first | (with_reducible refine Below.setCell ?_ (by first | omega | (· simp) | (· (simp; omega))) _) | (with_reducible refine Below.alloc ?_ (by first | omega | (· simp) | (· (simp; omega))) _) | (with_reducible refine Below.drew ?_) | (with_reducible refine bdrewN ?_ _) | (with_reducible exact Below.refl _ _) | (with_reducible assumption) | (with_reducible refine Below.trans ?_ (Below.mono (by assumption) (by first | omega | (· simp) | (· (simp; omega))))) | (with_reducible refine Below.trans ?_ (Kp.below (by assumption) (by first | omega | (· simp) | (· (simp; omega))) (by first | omega | (· simp) | (· (simp; omega)))))))
      case rest =>
        obtain ⟨r2, rfl, hr2, hl2, hb3⟩ := hcut
        obtain ⟨W3, hWeq⟩ : ∃ W : World, W = wc := ⟨_, rfl⟩
        subst hWeq
        have hs3 := hb3.size
        have B3_0 := (hb3.block g0 (by omega)).trans B2_0
        clear B2_0
        have B3_1 := (hb3.block g1 (by omega)).trans B2_1
        clear B2_1
        have RA3_0 : (E.agg [.lst 4 155 a0_0A a0_0c a0_0l]).Re W3 0 w.heap.size := RA2_0.below hb3 (by omega)
        clear RA2_0
        have RA3_1 : (E.agg [.int .i64 a1_0, .int .i64 a1_1, .str a1_2]).Re W3 0 w.heap.size := RA2_1.below hb3 (by omega)
        clear RA2_1
        have hB3 : Below w.heap.size w W3 := hB2.trans (hb3.mono (by omega))
        by_cases hn2 : r2 < 0
        · go_wp2
          go_ret
          exact ⟨rfl, hB3⟩
        have HR2 := hr2.resolve_left hn2
        clear hr2
        have hz2 : (E.agg [.int .i64 a1_0, .int .i64 a1_1, .str a1_2]).sz ≤ 1048576 := by have := HR2.out; omega
        have hD1 : D1.sz ≤ 1048576 := by rw [← HDa1.out, E.sz_d]; exact hz2
        go_upto_region 8 with fail
        go_cut [6, 7] (fun s6 s7 wx => ∃ (g2 : Nat) (x5a_0A : Option Addr) (x5a_0c : Nat) (x5a_0l : List E), s6 = .pointer (some ⟨g2, 0, none⟩) ∧ s7 = .int .i64 ((allID D0 D1 : Int)) ∧ wx.heap[g2]? = some (.cells #[.slice x5a_0A x5a_0l.length x5a_0c] 31 (0, 0)) ∧ W3.heap.size ≤ g2 ∧ Hid ((E.agg [.lst 4 58 x5a_0A x5a_0c x5a_0l]).Ty Try.prog 31) ∧ Hid ((E.agg [.lst 4 58 x5a_0A x5a_0c x5a_0l]).d = allD D0 D1) ∧ (E.agg [.lst 4 58 x5a_0A x5a_0c x5a_0l]).Re wx W3.heap.size wx.heap.size ∧ Below W3.heap.size W3 wx)
        case first =>
          have hwW := hB3.size
          have ltW0 : g0 < W3.heap.size := by omega
          have ltW1 : g1 < W3.heap.size := by omega
          clear hs1 lu0 lb0 lu1 lb1 hs2 hs3
          have z0_0_0 : W3.cell? ⟨g0, 0, none⟩ = some (.slice a0_0A a0_0l.length a0_0c) := cell_of B3_0 rfl
          have z0_1_0 : W3.cell? ⟨g1, 0, none⟩ = some (.int .i64 a1_0) := cell_of B3_1 rfl
          have z0_1_1 : W3.cell? ⟨g1, 1, none⟩ = some (.int .i64 a1_1) := cell_of B3_1 rfl
          have z0_1_2 : W3.cell? ⟨g1, 2, none⟩ = some (.string a1_2) := cell_of B3_1 rfl
          go_region_held3 (fun w' => w'.cell? ⟨g0, 0, none⟩ = some (.slice a0_0A a0_0l.length a0_0c) ∧ w'.cell? ⟨g1, 0, none⟩ = some (.int .i64 a1_0) ∧ w'.cell? ⟨g1, 1, none⟩ = some (.int .i64 a1_1) ∧ w'.cell? ⟨g1, 2, none⟩ = some (.string a1_2))
            (first | exact ⟨z0_0_0, z0_1_0, z0_1_1, z0_1_2⟩ | (refine ⟨?_, ?_, ?_, ?_⟩ <;> (repeat (first | (with_reducible assumption) | (with_reducible refine cell_set_ne ?_ ?_) | (with_reducible refine cell_drew ?_) | (with_reducible refine cell_drewN ?_) | (with_reducible refine cell_alloc ?_ ?_) | omega | (simp; done) | (simp; omega)))) | skip)
            ((first
              | (go_at_call 18; refine (toHeap_all TA0.out _ (by have h : (E.agg [.lst 4 155 a0_0A a0_0c a0_0l]).In W3 := E.Re.inn RA3_0 (by omega); exact (by repeat (first | (with_reducible assumption) | (with_reducible refine E.In.drew ?_) | (with_reducible refine E.In.drewN ?_ _) | (with_reducible refine E.In.alloc ?_ _) | (refine E.In.below ?_ (by with_reducible assumption) ?_) | omega | (· simp) | (· (simp; omega))))) (by omega)).mono ?_; rintro e3 w3 ⟨x3, e3h, HD3, ht3, ho3, hn3, hb3⟩; have HT3 := Lib.hid ht3; have HD3 := Lib.hid (HD3.out.trans HDa0.out); obtain ⟨x3_0A, x3_0c, x3_0l, rfl, -, -⟩ := shape_impl_Heap ht3; obtain rfl : e3 = .returned (.agg #[.slice x3_0A x3_0l.length x3_0c]) := e3h; have HO3 := Lib.hid ho3; have HN3 := Lib.hid hn3; clear ht3 ho3 hn3; have hz3 := hb3.size; (try simp only [World.size_alloc, World.size_drew, World.heap_drewN, World.size_setCell] at hz3); have z3_0_0 : w3.cell? ⟨g0, 0, none⟩ = some (.slice a0_0A a0_0l.length a0_0c) := cell_of (by exact (by repeat (first | (with_reducible assumption) | (with_reducible refine hp_drew ?_) | (with_reducible refine hp_drewN ?_) | (with_reducible refine hp_alloc ?_ ?_) | (refine hp_below (by with_reducible assumption) ?_ ?_) | omega | (· simp) | (· (simp; omega)))) : w3.heap[g0]? = some (.cells #[.slice a0_0A a0_0l.length a0_0c] 24 (0, 0))) rfl; have z3_1_0 : w3.cell? ⟨g1, 0, none⟩ = some (.int .i64 a1_0) := cell_of (by exact (by repeat (first | (with_reducible assumption) | (with_reducible refine hp_drew ?_) | (with_reducible refine hp_drewN ?_) | (with_reducible refine hp_alloc ?_ ?_) | (refine hp_below (by with_reducible assumption) ?_ ?_) | omega | (· simp) | (· (simp; omega)))) : w3.heap[g1]? = some (.cells #[.int .i64 a1_0, .int .i64 a1_1, .string a1_2] 26 (0, 0))) rfl; have z3_1_1 : w3.cell? ⟨g1, 1, none⟩ = some (.int .i64 a1_1) := cell_of (by exact (by repeat (first | (with_reducible assumption) | (with_reducible refine hp_drew ?_) | (with_reducible refine hp_drewN ?_) | (with_reducible refine hp_alloc ?_ ?_) | (refine hp_below (by with_reducible assumption) ?_ ?_) | omega | (· simp) | (· (simp; omega)))) : w3.heap[g1]? = some (.cells #[.int .i64 a1_0, .int .i64 a1_1, .string a1_2] 26 (0, 0))) rfl; have z3_1_2 : w3.cell? ⟨g1, 2, none⟩ = some (.string a1_2) := cell_of (by exact (by repeat (first | (with_reducible assumption) | (with_reducible refine hp_drew ?_) | (with_reducible refine hp_drewN ?_) | (with_reducible refine hp_alloc ?_ ?_) | (refine hp_below (by with_reducible assumption) ?_ ?_) | omega | (· simp) | (· (simp; omega)))) : w3.heap[g1]? = some (.cells #[.int .i64 a1_0, .int .i64 a1_1, .string a1_2] 26 (0, 0))) rfl; obtain ⟨kc3, kf3⟩ := bcell hb3; (try (have hl3_0 : W3.heap.size < w3.heap.size := by omega)))
              | (go_at_call 19; refine (toVal_all TA1.out _ (by have h : (E.agg [.int .i64 a1_0, .int .i64 a1_1, .str a1_2]).In W3 := E.Re.inn RA3_1 (by omega); exact (by repeat (first | (with_reducible assumption) | (with_reducible refine E.In.drew ?_) | (with_reducible refine E.In.drewN ?_ _) | (with_reducible refine E.In.alloc ?_ _) | (refine E.In.below ?_ (by with_reducible assumption) ?_) | omega | (· simp) | (· (simp; omega))))) (by omega)).mono ?_; rintro e4 w4 ⟨x4, e4h, HD4, ht4, ho4, hn4, hb4⟩; have HT4 := Lib.hid ht4; have HD4 := Lib.hid (HD4.out.trans HDa1.out); obtain ⟨x4_0, x4_1, x4_2, rfl, -, -, -, -⟩ := shape_impl_Val ht4; obtain rfl : e4 = .returned (.agg #[.int .i64 x4_0, .int .i64 x4_1, .string x4_2]) := e4h; have HO4 := Lib.hid ho4; have HN4 := Lib.hid hn4; clear ht4 ho4 hn4; have hz4 := hb4.size; (try simp only [World.size_alloc, World.size_drew, World.heap_drewN, World.size_setCell] at hz4); have z4_0_0 : w4.cell? ⟨g0, 0, none⟩ = some (.slice a0_0A a0_0l.length a0_0c) := cell_of (by exact (by repeat (first | (with_reducible assumption) | (with_reducible refine hp_drew ?_) | (with_reducible refine hp_drewN ?_) | (with_reducible refine hp_alloc ?_ ?_) | (refine hp_below (by with_reducible assumption) ?_ ?_) | omega | (· simp) | (· (simp; omega)))) : w4.heap[g0]? = some (.cells #[.slice a0_0A a0_0l.length a0_0c] 24 (0, 0))) rfl; have z4_1_0 : w4.cell? ⟨g1, 0, none⟩ = some (.int .i64 a1_0) := cell_of (by exact (by repeat (first | (with_reducible assumption) | (with_reducible refine hp_drew ?_) | (with_reducible refine hp_drewN ?_) | (with_reducible refine hp_alloc ?_ ?_) | (refine hp_below (by with_reducible assumption) ?_ ?_) | omega | (· simp) | (· (simp; omega)))) : w4.heap[g1]? = some (.cells #[.int .i64 a1_0, .int .i64 a1_1, .string a1_2] 26 (0, 0))) rfl; have z4_1_1 : w4.cell? ⟨g1, 1, none⟩ = some (.int .i64 a1_1) := cell_of (by exact (by repeat (first | (with_reducible assumption) | (with_reducible refine hp_drew ?_) | (with_reducible refine hp_drewN ?_) | (with_reducible refine hp_alloc ?_ ?_) | (refine hp_below (by with_reducible assumption) ?_ ?_) | omega | (· simp) | (· (simp; omega)))) : w4.heap[g1]? = some (.cells #[.int .i64 a1_0, .int .i64 a1_1, .string a1_2] 26 (0, 0))) rfl; have z4_1_2 : w4.cell? ⟨g1, 2, none⟩ = some (.string a1_2) := cell_of (by exact (by repeat (first | (with_reducible assumption) | (with_reducible refine hp_drew ?_) | (with_reducible refine hp_drewN ?_) | (with_reducible refine hp_alloc ?_ ?_) | (refine hp_below (by with_reducible assumption) ?_ ?_) | omega | (· simp) | (· (simp; omega)))) : w4.heap[g1]? = some (.cells #[.int .i64 a1_0, .int .i64 a1_1, .string a1_2] 26 (0, 0))) rfl; obtain ⟨kc4, kf4⟩ := bcell hb4; (try (have hl4_0 : W3.heap.size < w4.heap.size := by omega)); (try (have hl4_1 : w3.heap.size < w4.heap.size := by omega)))
              | (go_at_call 17; refine (specAlloc_u HT3.out HT4.out _ (by have h := HO3.out.inn; exact (by repeat (first | (with_reducible assumption) | (with_reducible refine E.In.drew ?_) | (with_reducible refine E.In.drewN ?_ _) | (with_reducible refine E.In.alloc ?_ _) | (refine E.In.below ?_ (by with_reducible assumption) ?_) | omega | (· simp) | (· (simp; omega))))) (sz_le HD3 hD0)).mono ?_; rintro e5 w5 ⟨x5a, e5h, HD5a, ht5a, hi5a, hb5⟩; have HD5a : Hid (x5a.d = allD D0 D1) := (by have h := HD5a.out; rw [HD3.out] at h; rw [HD4.out] at h; exact h); have HT5a := Lib.hid ht5a; obtain ⟨x5a_0A, x5a_0c, x5a_0l, rfl, -, -⟩ := shape_impl_Heap ht5a; rw [HD3.out] at e5h; rw [HD4.out] at e5h; obtain rfl : e5 = .returned (.tuple #[.agg #[.slice x5a_0A x5a_0l.length x5a_0c], .int .i64 ((allID D0 D1 : Int))]) := e5h; clear ht5a; have hz5 := hb5.size; (try simp only [World.size_alloc, World.size_drew, World.heap_drewN, World.size_setCell] at hz5); have z5_0_0 : w5.cell? ⟨g0, 0, none⟩ = some (.slice a0_0A a0_0l.length a0_0c) := cell_of (by exact (by repeat (first | (with_reducible assumption) | (with_reducible refine hp_drew ?_) | (with_reducible refine hp_drewN ?_) | (with_reducible refine hp_alloc ?_ ?_) | (refine hp_below (by with_reducible assumption) ?_ ?_) | omega | (· simp) | (· (simp; omega)))) : w5.heap[g0]? = some (.cells #[.slice a0_0A a0_0l.length a0_0c] 24 (0, 0))) rfl; have z5_1_0 : w5.cell? ⟨g1, 0, none⟩ = some (.int .i64 a1_0) := cell_of (by exact (by repeat (first | (with_reducible assumption) | (with_reducible refine hp_drew ?_) | (with_reducible refine hp_drewN ?_) | (with_reducible refine hp_alloc ?_ ?_) | (refine hp_below (by with_reducible assumption) ?_ ?_) | omega | (· simp) | (· (simp; omega)))) : w5.heap[g1]? = some (.cells #[.int .i64 a1_0, .int .i64 a1_1, .string a1_2] 26 (0, 0))) rfl; have z5_1_1 : w5.cell? ⟨g1, 1, none⟩ = some (.int .i64 a1_1) := cell_of (by exact (by repeat (first | (with_reducible assumption) | (with_reducible refine hp_drew ?_) | (with_reducible refine hp_drewN ?_) | (with_reducible refine hp_alloc ?_ ?_) | (refine hp_below (by with_reducible assumption) ?_ ?_) | omega | (· simp) | (· (simp; omega)))) : w5.heap[g1]? = some (.cells #[.int .i64 a1_0, .int .i64 a1_1, .string a1_2] 26 (0, 0))) rfl; have z5_1_2 : w5.cell? ⟨g1, 2, none⟩ = some (.string a1_2) := cell_of (by exact (by repeat (first | (with_reducible assumption) | (with_reducible refine hp_drew ?_) | (with_reducible refine hp_drewN ?_) | (with_reducible refine hp_alloc ?_ ?_) | (refine hp_below (by with_reducible assumption) ?_ ?_) | omega | (· simp) | (· (simp; omega)))) : w5.heap[g1]? = some (.cells #[.int .i64 a1_0, .int .i64 a1_1, .string a1_2] 26 (0, 0))) rfl; obtain ⟨kc5, kf5⟩ := bcell hb5; (try (have hl5_0 : W3.heap.size < w5.heap.size := by omega)); (try (have hl5_1 : w3.heap.size < w5.heap.size := by omega)); (try (have hl5_2 : w4.heap.size < w5.heap.size := by omega)))))
          all_goals
            go_wp2_with fail
            go_meet
            refine ⟨_, x5a_0A, x5a_0c, x5a_0l, rfl, rfl, ?_, ?_, ?_, ?_, ?_, ?_⟩
            · first | ((repeat (first | (with_reducible assumption) | (with_reducible refine hp_drew ?_) | (with_reducible refine hp_drewN ?_) | (refine hp_new ?_; first | rfl | (simp; done)) | (with_reducible refine hp_alloc ?_ ?_) | (refine hp_below (by with_reducible assumption) ?_ ?_) | omega | (· simp) | (· (simp; omega)))); done) | (have X : w5.heap[W3.heap.size]? = some (.cells #[.slice none 0 0] 31 (0, 0)) := (by repeat (first | (with_reducible assumption) | (with_reducible refine hp_drew ?_) | (with_reducible refine hp_drewN ?_) | (refine hp_new ?_; first | rfl | (simp; done)) | (with_reducible refine hp_alloc ?_ ?_) | (refine hp_below (by with_reducible assumption) ?_ ?_) | omega | (· simp) | (· (simp; omega)))); simp only [heap_set, X]; simp [setAt]; done) | (have X : w5.heap[w3.heap.size]? = some (.cells #[.slice none 0 0] 31 (0, 0)) := (by repeat (first | (with_reducible assumption) | (with_reducible refine hp_drew ?_) | (with_reducible refine hp_drewN ?_) | (refine hp_new ?_; first | rfl | (simp; done)) | (with_reducible refine hp_alloc ?_ ?_) | (refine hp_below (by with_reducible assumption) ?_ ?_) | omega | (· simp) | (· (simp; omega)))); simp only [heap_set, X]; simp [setAt]; done) | (have X : w5.heap[w4.heap.size]? = some (.cells #[.slice none 0 0] 31 (0, 0)) := (by repeat (first | (with_reducible assumption) | (with_reducible refine hp_drew ?_) | (with_reducible refine hp_drewN ?_) | (refine hp_new ?_; first | rfl | (simp; done)) | (with_reducible refine hp_alloc ?_ ?_) | (refine hp_below (by with_reducible assumption) ?_ ?_) | omega | (· simp) | (· (simp; omega)))); simp only [heap_set, X]; simp [setAt]; done) | fail
            · first | omega | (simp; done) | (simp; omega)
            · exact HT5a
            · exact HD5a
            · refine E.Re.fin hi5a (fun hh => ?_) ?_ ?_
              · (repeat (first | (with_reducible assumption) | (with_reducible refine E.Re.drew ?_) | (with_reducible refine E.Re.drewN ?_ _) | (with_reducible refine E.Re.alloc ?_ ?_ _) | (with_reducible refine E.Re.setAny ?_ ?_ _) | (refine E.Re.below ?_ (by with_reducible assumption) ?_) | (first | omega | (dsimp only; omega) | (simp only [World.size_alloc, World.size_drew, World.heap_drewN, World.size_setCell]; omega) | (simp; done) | (simp; omega))))
              · (first | omega | (dsimp only; omega) | (simp only [World.size_alloc, World.size_drew, World.heap_drewN, World.size_setCell]; omega) | (simp; done) | (simp; omega))
              · (first | omega | (dsimp only; omega) | (simp only [World.size_alloc, World.size_drew, World.heap_drewN, World.size_setCell]; omega) | (simp; done) | (simp; omega))
            · exact (by repeat (first | (with_reducible refine Below.setCell ?_ (by first | omega | (· simp) | (· (simp; omega))) _) | (with_reducible refine Below.alloc ?_ (by first | omega | (· simp) | (· (simp; omega))) _) | (with_reducible refine Below.drew ?_) | (with_reducible refine bdrewN ?_ _) | (with_reducible exact Below.refl _ _) | (with_reducible assumption) | (with_reducible refine Below.trans ?_ (Below.mono (by assumption) (by first | omega | (· simp) | (· (simp; omega))))) | (with_reducible refine Below.trans ?_ (Kp.below (by assumption) (by first | omega | (· simp) | (· (simp; omega))) (by first | omega | (· simp) | (· (simp; omega)))))))
        case rest =>
          obtain ⟨g2, x5a_0A, x5a_0c, x5a_0l, rfl, rfl, B4_2, lb2, HT5a, HD5a, I4_5a, hb4⟩ := hcut
          obtain ⟨W4, hWeq⟩ : ∃ W : World, W = wc := ⟨_, rfl⟩
          subst hWeq
          have hs4 := hb4.size
          have lu2 := blk_lt B4_2
          have B4_0 := (hb4.block g0 (by omega)).trans B3_0
          clear B3_0
          have B4_1 := (hb4.block g1 (by omega)).trans B3_1
          clear B3_1
          have RA4_0 : (E.agg [.lst 4 155 a0_0A a0_0c a0_0l]).Re W4 0 w.heap.size := RA3_0.below hb4 (by omega)
          clear RA3_0
          have RA4_1 : (E.agg [.int .i64 a1_0, .int .i64 a1_1, .str a1_2]).Re W4 0 w.heap.size := RA3_1.below hb4 (by omega)
          clear RA3_1
          have hB4 : Below w.heap.size w W4 := hB3.trans (hb4.mono (by omega))
          go_upto_region 9 with fail
          go_cut [8] (fun s8 wx => ∃ (g3 : Nat) (x6_0A : Option Addr) (x6_0c : Nat) (x6_0l : List E), s8 = .pointer (some ⟨g3, 0, none⟩) ∧ wx.heap[g3]? = some (.cells #[.slice x6_0A x6_0l.length x6_0c] 31 (0, 0)) ∧ W4.heap.size ≤ g3 ∧ g3 ∉ (E.agg [.lst 4 58 x6_0A x6_0c x6_0l]).fp ∧ Hid ((E.agg [.lst 4 58 x6_0A x6_0c x6_0l]).Ty Try.prog 31) ∧ Hid ((E.agg [.lst 4 58 x6_0A x6_0c x6_0l]).d = D0) ∧ Hid ((E.agg [.lst 4 58 x6_0A x6_0c x6_0l]).Ho wx W4.heap.size wx.heap.size) ∧ Hid (E.agg [.lst 4 58 x6_0A x6_0c x6_0l]).fp.Nodup ∧ Below W4.heap.size W4 wx)
          case first =>
            have hwW := hB4.size
            have ltW0 : g0 < W4.heap.size := by omega
            clear hs1 lu0 lb0 lu1 lb1 hs2 hs3 hs4 lu2 lb2
            clear B4_1 B4_2 I4_5a
            have z0_0_0 : W4.cell? ⟨g0, 0, none⟩ = some (.slice a0_0A a0_0l.length a0_0c) := cell_of B4_0 rfl
            go_wp2_with fail
            go_at_call 18
            refine (toHeap_all TA0.out _ (by have h : (E.agg [.lst 4 155 a0_0A a0_0c a0_0l]).In W4 := E.Re.inn RA4_0 (by omega); exact (by repeat (first | (with_reducible assumption) | (with_reducible refine E.In.drew ?_) | (with_reducible refine E.In.drewN ?_ _) | (with_reducible refine E.In.alloc ?_ _) | (refine E.In.below ?_ (by with_reducible assumption) ?_) | omega | (· simp) | (· (simp; omega))))) (by omega)).mono ?_; rintro e6 w6 ⟨x6, e6h, HD6, ht6, ho6, hn6, hb6⟩; have HT6 := Lib.hid ht6; have HD6 := Lib.hid (HD6.out.trans HDa0.out); obtain ⟨x6_0A, x6_0c, x6_0l, rfl, -, -⟩ := shape_impl_Heap ht6; obtain rfl : e6 = .returned (.agg #[.slice x6_0A x6_0l.length x6_0c]) := e6h; have HO6 := Lib.hid ho6; have HN6 := Lib.hid hn6; clear ht6 ho6 hn6; have hz6 := hb6.size; (try simp only [World.size_alloc, World.size_drew, World.heap_drewN, World.size_setCell] at hz6)
            go_wp2_with fail
            go_meet
            refine ⟨_, x6_0A, x6_0c, x6_0l, rfl, ?_, ?_, ?_, ?_, ?_, ?_, ?_, ?_⟩
            · (repeat (first | (with_reducible assumption) | (with_reducible refine hp_drew ?_) | (with_reducible refine hp_drewN ?_) | (refine hp_new ?_; first | rfl | (simp; done)) | (with_reducible refine hp_alloc ?_ ?_) | (refine hp_below (by with_reducible assumption) ?_ ?_) | omega | (· simp) | (· (simp; omega))))
            · first | omega | (simp; done) | (simp; omega)
            · (intro hm; have h := HO6.out.lt _ hm; (try simp only [World.size_alloc, World.size_drew, World.heap_drewN, World.size_setCell] at h); omega)
            · exact HT6
            · exact HD6
            · refine E.Ho.fin HO6.out (fun hh => ?_) ?_ ?_
              · (repeat (first | (with_reducible assumption) | (with_reducible refine E.Ho.drew ?_) | (with_reducible refine E.Ho.drewN ?_ _) | (with_reducible refine E.Ho.alloc ?_ ?_ _) | (with_reducible refine E.Ho.setAny ?_ ?_ _) | (refine E.Ho.below ?_ (by with_reducible assumption) ?_) | (first | omega | (dsimp only; omega) | (simp only [World.size_alloc, World.size_drew, World.heap_drewN, World.size_setCell]; omega) | (simp; done) | (simp; omega))))
              · (first | omega | (dsimp only; omega) | (simp only [World.size_alloc, World.size_drew, World.heap_drewN, World.size_setCell]; omega) | (simp; done) | (simp; omega))
              · (first | omega | (dsimp only; omega) | (simp only [World.size_alloc, World.size_drew, World.heap_drewN, World.size_setCell]; omega) | (simp; done) | (simp; omega))
            · exact HN6
            · exact (by repeat (first | (with_reducible refine Below.setCell ?_ (by first | omega | (· simp) | (· (simp; omega))) _) | (with_reducible refine Below.alloc ?_ (by first | omega | (· simp) | (· (simp; omega))) _) | (with_reducible refine Below.drew ?_) | (with_reducible refine bdrewN ?_ _) | (with_reducible exact Below.refl _ _) | (with_reducible assumption) | (with_reducible refine Below.trans ?_ (Below.mono (by assumption) (by first | omega | (· simp) | (· (simp; omega))))) | (with_reducible refine Below.trans ?_ (Kp.below (by assumption) (by first | omega | (· simp) | (· (simp; omega))) (by first | omega | (· simp) | (· (simp; omega)))))))
          case rest =>
            obtain ⟨g3, x6_0A, x6_0c, x6_0l, rfl, B5_3, lb3, nb3_6, HT6, HD6, HO5_6, HN6, hb5⟩ := hcut
            obtain ⟨W5, hWeq⟩ : ∃ W : World, W = wc := ⟨_, rfl⟩
            subst hWeq
            have hs5 := hb5.size
            have lu3 := blk_lt B5_3
            have B5_0 := (hb5.block g0 (by omega)).trans B4_0
            clear B4_0
            have B5_1 := (hb5.block g1 (by omega)).trans B4_1
            clear B4_1
            have B5_2 := (hb5.block g2 (by omega)).trans B4_2
            clear B4_2
            have RA5_0 : (E.agg [.lst 4 155 a0_0A a0_0c a0_0l]).Re W5 0 w.heap.size := RA4_0.below hb5 (by omega)
            clear RA4_0
            have RA5_1 : (E.agg [.int .i64 a1_0, .int .i64 a1_1, .str a1_2]).Re W5 0 w.heap.size := RA4_1.below hb5 (by omega)
            clear RA4_1
            have I5_5a := I4_5a.below hb5 (by omega)
            clear I4_5a
            have hB5 : Below w.heap.size w W5 := hB4.trans (hb5.mono (by omega))
            go_upto_region 10 with fail
            go_cut [9, 10] (fun s9 s10 wx => ∃ (g4 : Nat) (x8a_0A : Option Addr) (x8a_0c : Nat) (x8a_0l : List E), s9 = .pointer (some ⟨g4, 0, none⟩) ∧ s10 = .int .i64 ((allID D0 D1 : Int)) ∧ wx.heap[g4]? = some (.cells #[.slice x8a_0A x8a_0l.length x8a_0c] 31 (0, 0)) ∧ W5.heap.size ≤ g4 ∧ g4 ∉ (E.agg [.lst 4 58 x8a_0A x8a_0c x8a_0l]).fp ∧ Hid ((E.agg [.lst 4 58 x8a_0A x8a_0c x8a_0l]).Ty Try.prog 31) ∧ Hid ((E.agg [.lst 4 58 x8a_0A x8a_0c x8a_0l]).d = allD D0 D1) ∧ Hid ((E.agg [.lst 4 58 x8a_0A x8a_0c x8a_0l]).Ho wx W5.heap.size wx.heap.size) ∧ Hid (E.agg [.lst 4 58 x8a_0A x8a_0c x8a_0l]).fp.Nodup ∧ Below W5.heap.size W5 wx)
            case first =>
              have hwW := hB5.size
              have ltW3 : g3 < W5.heap.size := by omega
              have ltW1 : g1 < W5.heap.size := by omega
              have hiW6 : W5.heap.size ≤ W5.heap.size := by omega
              clear hs1 lu0 lb0 lu1 lb1 hs2 hs3 hs4 lu2 lb2 lu3 lb3 nb3_6
              clear B5_0 B5_2 I5_5a
              have z0_3_0 : W5.cell? ⟨g3, 0, none⟩ = some (.slice x6_0A x6_0l.length x6_0c) := cell_of B5_3 rfl
              have z0_1_0 : W5.cell? ⟨g1, 0, none⟩ = some (.int .i64 a1_0) := cell_of B5_1 rfl
              have z0_1_1 : W5.cell? ⟨g1, 1, none⟩ = some (.int .i64 a1_1) := cell_of B5_1 rfl
              have z0_1_2 : W5.cell? ⟨g1, 2, none⟩ = some (.string a1_2) := cell_of B5_1 rfl
              go_region_held3 (fun w' => w'.cell? ⟨g3, 0, none⟩ = some (.slice x6_0A x6_0l.length x6_0c) ∧ w'.cell? ⟨g1, 0, none⟩ = some (.int .i64 a1_0) ∧ w'.cell? ⟨g1, 1, none⟩ = some (.int .i64 a1_1) ∧ w'.cell? ⟨g1, 2, none⟩ = some (.string a1_2))
                (first | exact ⟨z0_3_0, z0_1_0, z0_1_1, z0_1_2⟩ | (refine ⟨?_, ?_, ?_, ?_⟩ <;> (repeat (first | (with_reducible assumption) | (with_reducible refine cell_set_ne ?_ ?_) | (with_reducible refine cell_drew ?_) | (with_reducible refine cell_drewN ?_) | (with_reducible refine cell_alloc ?_ ?_) | omega | (simp; done) | (simp; omega)))) | skip)
                ((first
                  | (go_at_call 19; refine (toVal_all TA1.out _ (by have h : (E.agg [.int .i64 a1_0, .int .i64 a1_1, .str a1_2]).In W5 := E.Re.inn RA5_1 (by omega); exact (by repeat (first | (with_reducible assumption) | (with_reducible refine E.In.drew ?_) | (with_reducible refine E.In.drewN ?_ _) | (with_reducible refine E.In.alloc ?_ _) | (refine E.In.below ?_ (by with_reducible assumption) ?_) | omega | (· simp) | (· (simp; omega))))) (by omega)).mono ?_; rintro e7 w7 ⟨x7, e7h, HD7, ht7, ho7, hn7, hb7⟩; have HT7 := Lib.hid ht7; have HD7 := Lib.hid (HD7.out.trans HDa1.out); obtain ⟨x7_0, x7_1, x7_2, rfl, -, -, -, -⟩ := shape_impl_Val ht7; obtain rfl : e7 = .returned (.agg #[.int .i64 x7_0, .int .i64 x7_1, .string x7_2]) := e7h; have HO7 := Lib.hid ho7; have HN7 := Lib.hid hn7; clear ht7 ho7 hn7; have hz7 := hb7.size; (try simp only [World.size_alloc, World.size_drew, World.heap_drewN, World.size_setCell] at hz7); have z7_3_0 : w7.cell? ⟨g3, 0, none⟩ = some (.slice x6_0A x6_0l.length x6_0c) := cell_of (by exact (by repeat (first | (with_reducible assumption) | (with_reducible refine hp_drew ?_) | (with_reducible refine hp_drewN ?_) | (with_reducible refine hp_alloc ?_ ?_) | (refine hp_below (by with_reducible assumption) ?_ ?_) | omega | (· simp) | (· (simp; omega)))) : w7.heap[g3]? = some (.cells #[.slice x6_0A x6_0l.length x6_0c] 31 (0, 0))) rfl; have z7_1_0 : w7.cell? ⟨g1, 0, none⟩ = some (.int .i64 a1_0) := cell_of (by exact (by repeat (first | (with_reducible assumption) | (with_reducible refine hp_drew ?_) | (with_reducible refine hp_drewN ?_) | (with_reducible refine hp_alloc ?_ ?_) | (refine hp_below (by with_reducible assumption) ?_ ?_) | omega | (· simp) | (· (simp; omega)))) : w7.heap[g1]? = some (.cells #[.int .i64 a1_0, .int .i64 a1_1, .string a1_2] 26 (0, 0))) rfl; have z7_1_1 : w7.cell? ⟨g1, 1, none⟩ = some (.int .i64 a1_1) := cell_of (by exact (by repeat (first | (with_reducible assumption) | (with_reducible refine hp_drew ?_) | (with_reducible refine hp_drewN ?_) | (with_reducible refine hp_alloc ?_ ?_) | (refine hp_below (by with_reducible assumption) ?_ ?_) | omega | (· simp) | (· (simp; omega)))) : w7.heap[g1]? = some (.cells #[.int .i64 a1_0, .int .i64 a1_1, .string a1_2] 26 (0, 0))) rfl; have z7_1_2 : w7.cell? ⟨g1, 2, none⟩ = some (.string a1_2) := cell_of (by exact (by repeat (first | (with_reducible assumption) | (with_reducible refine hp_drew ?_) | (with_reducible refine hp_drewN ?_) | (with_reducible refine hp_alloc ?_ ?_) | (refine hp_below (by with_reducible assumption) ?_ ?_) | omega | (· simp) | (· (simp; omega)))) : w7.heap[g1]? = some (.cells #[.int .i64 a1_0, .int .i64 a1_1, .string a1_2] 26 (0, 0))) rfl; obtain ⟨kc7, kf7⟩ := bcell hb7; (try (have hl7_0 : W5.heap.size < w7.heap.size := by omega)))
                  | (go_at_call 20; refine (implAlloc_u HT6.out HT7.out _ (by have h : (E.agg [.lst 4 58 x6_0A x6_0c x6_0l]).In W5 := HO5_6.out.inn; exact (by repeat (first | (with_reducible assumption) | (with_reducible refine E.In.drew ?_) | (with_reducible refine E.In.drewN ?_ _) | (with_reducible refine E.In.alloc ?_ _) | (refine E.In.below ?_ (by with_reducible assumption) ?_) | omega | (· simp) | (· (simp; omega))))) (sz_le HD6 hD0)).mono ?_; rintro e8 w8 ⟨x8a, e8h, HD8a, ht8a, ho8a, hn8a, hb8⟩; have HD8a : Hid (x8a.d = allD D0 D1) := (by have h := HD8a.out; rw [HD6.out] at h; rw [HD7.out] at h; exact h); have HT8a := Lib.hid ht8a; obtain ⟨x8a_0A, x8a_0c, x8a_0l, rfl, -, -⟩ := shape_impl_Heap ht8a; rw [HD6.out] at e8h; rw [HD7.out] at e8h; obtain rfl : e8 = .returned (.tuple #[.agg #[.slice x8a_0A x8a_0l.length x8a_0c], .int .i64 ((allID D0 D1 : Int))]) := e8h; have HO8a := Lib.hid ho8a; have HN8a := Lib.hid hn8a; clear ho8a hn8a ht8a; have hz8 := hb8.size; (try simp only [World.size_alloc, World.size_drew, World.heap_drewN, World.size_setCell] at hz8); have z8_3_0 : w8.cell? ⟨g3, 0, none⟩ = some (.slice x6_0A x6_0l.length x6_0c) := cell_of (by exact (by repeat (first | (with_reducible assumption) | (with_reducible refine hp_drew ?_) | (with_reducible refine hp_drewN ?_) | (with_reducible refine hp_alloc ?_ ?_) | (refine hp_below (by with_reducible assumption) ?_ ?_) | omega | (· simp) | (· (simp; omega)))) : w8.heap[g3]? = some (.cells #[.slice x6_0A x6_0l.length x6_0c] 31 (0, 0))) rfl; have z8_1_0 : w8.cell? ⟨g1, 0, none⟩ = some (.int .i64 a1_0) := cell_of (by exact (by repeat (first | (with_reducible assumption) | (with_reducible refine hp_drew ?_) | (with_reducible refine hp_drewN ?_) | (with_reducible refine hp_alloc ?_ ?_) | (refine hp_below (by with_reducible assumption) ?_ ?_) | omega | (· simp) | (· (simp; omega)))) : w8.heap[g1]? = some (.cells #[.int .i64 a1_0, .int .i64 a1_1, .string a1_2] 26 (0, 0))) rfl; have z8_1_1 : w8.cell? ⟨g1, 1, none⟩ = some (.int .i64 a1_1) := cell_of (by exact (by repeat (first | (with_reducible assumption) | (with_reducible refine hp_drew ?_) | (with_reducible refine hp_drewN ?_) | (with_reducible refine hp_alloc ?_ ?_) | (refine hp_below (by with_reducible assumption) ?_ ?_) | omega | (· simp) | (· (simp; omega)))) : w8.heap[g1]? = some (.cells #[.int .i64 a1_0, .int .i64 a1_1, .string a1_2] 26 (0, 0))) rfl; have z8_1_2 : w8.cell? ⟨g1, 2, none⟩ = some (.string a1_2) := cell_of (by exact (by repeat (first | (with_reducible assumption) | (with_reducible refine hp_drew ?_) | (with_reducible refine hp_drewN ?_) | (with_reducible refine hp_alloc ?_ ?_) | (refine hp_below (by with_reducible assumption) ?_ ?_) | omega | (· simp) | (· (simp; omega)))) : w8.heap[g1]? = some (.cells #[.int .i64 a1_0, .int .i64 a1_1, .string a1_2] 26 (0, 0))) rfl; obtain ⟨kc8, kf8⟩ := bcell hb8; (try (have hl8_0 : W5.heap.size < w8.heap.size := by omega)); (try (have hl8_1 : w7.heap.size < w8.heap.size := by omega)))))
              all_goals
                go_wp2_with fail
                go_meet
                refine ⟨_, x8a_0A, x8a_0c, x8a_0l, rfl, rfl, ?_, ?_, ?_, ?_, ?_, ?_, ?_, ?_⟩
                · first | ((repeat (first | (with_reducible assumption) | (with_reducible refine hp_drew ?_) | (with_reducible refine hp_drewN ?_) | (refine hp_new ?_; first | rfl | (simp; done)) | (with_reducible refine hp_alloc ?_ ?_) | (refine hp_below (by with_reducible assumption) ?_ ?_) | omega | (· simp) | (· (simp; omega)))); done) | (have X : w8.heap[W5.heap.size]? = some (.cells #[.slice none 0 0] 31 (0, 0)) := (by repeat (first | (with_reducible assumption) | (with_reducible refine hp_drew ?_) | (with_reducible refine hp_drewN ?_) | (refine hp_new ?_; first | rfl | (simp; done)) | (with_reducible refine hp_alloc ?_ ?_) | (refine hp_below (by with_reducible assumption) ?_ ?_) | omega | (· simp) | (· (simp; omega)))); simp only [heap_set, X]; simp [setAt]; done) | (have X : w8.heap[w7.heap.size]? = some (.cells #[.slice none 0 0] 31 (0, 0)) := (by repeat (first | (with_reducible assumption) | (with_reducible refine hp_drew ?_) | (with_reducible refine hp_drewN ?_) | (refine hp_new ?_; first | rfl | (simp; done)) | (with_reducible refine hp_alloc ?_ ?_) | (refine hp_below (by with_reducible assumption) ?_ ?_) | omega | (· simp) | (· (simp; omega)))); simp only [heap_set, X]; simp [setAt]; done) | fail
                · first | omega | (simp; done) | (simp; omega)
                · (intro hm; have h := HO8a.out.lt _ hm; (try simp only [World.size_alloc, World.size_drew, World.heap_drewN, World.size_setCell] at h); omega)
                · exact HT8a
                · exact HD8a
                · refine E.Ho.fin HO8a.out (fun hh => ?_) ?_ ?_
                  · (repeat (first | (with_reducible assumption) | (with_reducible refine E.Ho.drew ?_) | (with_reducible refine E.Ho.drewN ?_ _) | (with_reducible refine E.Ho.alloc ?_ ?_ _) | (with_reducible refine E.Ho.setAny ?_ ?_ _) | (refine E.Ho.below ?_ (by with_reducible assumption) ?_) | (first | omega | (dsimp only; omega) | (simp only [World.size_alloc, World.size_drew, World.heap_drewN, World.size_setCell]; omega) | (simp; done) | (simp; omega))))
                  · (first | omega | (dsimp only; omega) | (simp only [World.size_alloc, World.size_drew, World.heap_drewN, World.size_setCell]; omega) | (simp; done) | (simp; omega))
                  · (first | omega | (dsimp only; omega) | (simp only [World.size_alloc, World.size_drew, World.heap_drewN, World.size_setCell]; omega) | (simp; done) | (simp; omega))
                · exact HN8a
                · exact (by repeat (first | (with_reducible refine Below.setCell ?_ (by first | omega | (· simp) | (· (simp; omega))) _) | (with_reducible refine Below.alloc ?_ (by first | omega | (· simp) | (· (simp; omega))) _) | (with_reducible refine Below.drew ?_) | (with_reducible refine bdrewN ?_ _) | (with_reducible exact Below.refl _ _) | (with_reducible assumption) | (with_reducible refine Below.trans ?_ (Below.mono (by assumption) (by first | omega | (· simp) | (· (simp; omega))))) | (with_reducible refine Below.trans ?_ (Kp.below (by assumption) (by first | omega | (· simp) | (· (simp; omega))) (by first | omega | (· simp) | (· (simp; omega)))))))
            case rest =>
              obtain ⟨g4, x8a_0A, x8a_0c, x8a_0l, rfl, rfl, B6_4, lb4, nb4_8a, HT8a, HD8a, HO6_8a, HN8a, hb6⟩ := hcut
              obtain ⟨W6, hWeq⟩ : ∃ W : World, W = wc := ⟨_, rfl⟩
              subst hWeq
              have hs6 := hb6.size
              have lu4 := blk_lt B6_4
              have B6_0 := (hb6.block g0 (by omega)).trans B5_0
              clear B5_0
              have B6_1 := (hb6.block g1 (by omega)).trans B5_1
              clear B5_1
              have B6_2 := (hb6.block g2 (by omega)).trans B5_2
              clear B5_2
              have B6_3 := (hb6.block g3 (by omega)).trans B5_3
              clear B5_3
              have RA6_0 : (E.agg [.lst 4 155 a0_0A a0_0c a0_0l]).Re W6 0 w.heap.size := RA5_0.below hb6 (by omega)
              clear RA5_0
              have RA6_1 : (E.agg [.int .i64 a1_0, .int .i64 a1_1, .str a1_2]).Re W6 0 w.heap.size := RA5_1.below hb6 (by omega)
              clear RA5_1
              have I6_5a := I5_5a.below hb6 (by omega)
              clear I5_5a
              have HO6_6 := Lib.hid (HO5_6.out.below hb6 (by omega))
              clear HO5_6
              have hB6 : Below w.heap.size w W6 := hB5.trans (hb6.mono (by omega))
              go_upto_region 11 with fail
              go_cut [51] (fun s51 wx => s51 = .bool false ∧ Below W6.heap.size W6 wx)
              case first =>
                have hwW := hB6.size
                have ltW4 : g4 < W6.heap.size := by omega
                have ltW2 : g2 < W6.heap.size := by omega
                have hiW5a : W4.heap.size ≤ W6.heap.size := by omega
                have hiW8a : W6.heap.size ≤ W6.heap.size := by omega
                clear hs1 lu0 lb0 lu1 lb1 hs2 hs3 lu2 lb2 hs5 lu3 lb3 nb3_6 lu4 lb4 nb4_8a
                clear B6_0 B6_1 B6_3 HO6_6
                have z0_4_0 : W6.cell? ⟨g4, 0, none⟩ = some (.slice x8a_0A x8a_0l.length x8a_0c) := cell_of B6_4 rfl
                have z0_2_0 : W6.cell? ⟨g2, 0, none⟩ = some (.slice x5a_0A x5a_0l.length x5a_0c) := cell_of B6_2 rfl
                go_wp2_with fail
                go_at_call 21
                refine (eqHeap_all HT8a.out HT5a.out ((show (E.agg [.lst 4 58 x8a_0A x8a_0c x8a_0l]).d = allD D0 D1 from HD8a.out).trans (show (E.agg [.lst 4 58 x5a_0A x5a_0c x5a_0l]).d = allD D0 D1 from HD5a.out).symm) _ (by have h : (E.agg [.lst 4 58 x8a_0A x8a_0c x8a_0l]).In W6 := HO6_8a.out.inn; exact (by repeat (first | (with_reducible assumption) | (with_reducible refine E.In.drew ?_) | (with_reducible refine E.In.drewN ?_ _) | (with_reducible refine E.In.alloc ?_ _) | (refine E.In.below ?_ (by with_reducible assumption) ?_) | omega | (· simp) | (· (simp; omega))))) (by have h : (E.agg [.lst 4 58 x5a_0A x5a_0c x5a_0l]).In W6 := I6_5a.inn (by omega); exact (by repeat (first | (with_reducible assumption) | (with_reducible refine E.In.drew ?_) | (with_reducible refine E.In.drewN ?_ _) | (with_reducible refine E.In.alloc ?_ _) | (refine E.In.below ?_ (by with_reducible assumption) ?_) | omega | (· simp) | (· (simp; omega)))))).mono ?_; rintro e w9 ⟨rfl, hb9⟩; have hz9 := hb9.size; (try simp only [World.size_alloc, World.size_drew, World.heap_drewN, World.size_setCell] at hz9)
                go_wp2_with fail
                go_meet
                refine ⟨rfl, ?_⟩
                · exact (by repeat (first | (with_reducible refine Below.setCell ?_ (by first | omega | (· simp) | (· (simp; omega))) _) | (with_reducible refine Below.alloc ?_ (by first | omega | (· simp) | (· (simp; omega))) _) | (with_reducible refine Below.drew ?_) | (with_reducible refine bdrewN ?_ _) | (with_reducible exact Below.refl _ _) | (with_reducible assumption) | (with_reducible refine Below.trans ?_ (Below.mono (by assumption) (by first | omega | (· simp) | (· (simp; omega))))) | (with_reducible refine Below.trans ?_ (Kp.below (by assumption) (by first | omega | (· simp) | (· (simp; omega))) (by first | omega | (· simp) | (· (simp; omega)))))))
              case rest =>
                obtain ⟨rfl, hb7⟩ := hcut
                obtain ⟨W7, hWeq⟩ : ∃ W : World, W = wc := ⟨_, rfl⟩
                subst hWeq
                have hs7 := hb7.size
                have B7_0 := (hb7.block g0 (by omega)).trans B6_0
                clear B6_0
                have B7_1 := (hb7.block g1 (by omega)).trans B6_1
                clear B6_1
                have B7_2 := (hb7.block g2 (by omega)).trans B6_2
                clear B6_2
                have B7_3 := (hb7.block g3 (by omega)).trans B6_3
                clear B6_3
                have B7_4 := (hb7.block g4 (by omega)).trans B6_4
                clear B6_4
                have RA7_0 : (E.agg [.lst 4 155 a0_0A a0_0c a0_0l]).Re W7 0 w.heap.size := RA6_0.below hb7 (by omega)
                clear RA6_0
                have RA7_1 : (E.agg [.int .i64 a1_0, .int .i64 a1_1, .str a1_2]).Re W7 0 w.heap.size := RA6_1.below hb7 (by omega)
                clear RA6_1
                have I7_5a := I6_5a.below hb7 (by omega)
                clear I6_5a
                have HO7_6 := Lib.hid (HO6_6.out.below hb7 (by omega))
                clear HO6_6
                have HO7_8a := Lib.hid (HO6_8a.out.below hb7 (by omega))
                clear HO6_8a
                have hB7 : Below w.heap.size w W7 := hB6.trans (hb7.mono (by omega))
                go_upto_region 13 with fail
                go_cut [56] (fun s56 wx => s56 = .bool false ∧ Below W7.heap.size W7 wx)
                case first =>
                  have hwW := hB7.size
                  have ltW3 : g3 < W7.heap.size := by omega
                  have ltW0 : g0 < W7.heap.size := by omega
                  have hiW6 : W5.heap.size ≤ W7.heap.size := by omega
                  clear hs1 lu0 lb0 lu1 lb1 hs2 hs3 hs4 lu2 lb2 lu3 lb3 nb3_6 hs6 lu4 lb4 nb4_8a hs7
                  clear B7_1 B7_2 B7_4 I7_5a HO7_8a
                  have z0_3_0 : W7.cell? ⟨g3, 0, none⟩ = some (.slice x6_0A x6_0l.length x6_0c) := cell_of B7_3 rfl
                  have z0_0_0 : W7.cell? ⟨g0, 0, none⟩ = some (.slice a0_0A a0_0l.length a0_0c) := cell_of B7_0 rfl
                  go_region_held3 (fun w' => w'.cell? ⟨g3, 0, none⟩ = some (.slice x6_0A x6_0l.length x6_0c) ∧ w'.cell? ⟨g0, 0, none⟩ = some (.slice a0_0A a0_0l.length a0_0c))
                    (first | exact ⟨z0_3_0, z0_0_0⟩ | (refine ⟨?_, ?_⟩ <;> (repeat (first | (with_reducible assumption) | (with_reducible refine cell_set_ne ?_ ?_) | (with_reducible refine cell_drew ?_) | (with_reducible refine cell_drewN ?_) | (with_reducible refine cell_alloc ?_ ?_) | omega | (simp; done) | (simp; omega)))) | skip)
                    ((first
                      | (go_at_call 18; refine (toHeap_all TA0.out _ (by have h : (E.agg [.lst 4 155 a0_0A a0_0c a0_0l]).In W7 := E.Re.inn RA7_0 (by omega); exact (by repeat (first | (with_reducible assumption) | (with_reducible refine E.In.drew ?_) | (with_reducible refine E.In.drewN ?_ _) | (with_reducible refine E.In.alloc ?_ _) | (refine E.In.below ?_ (by with_reducible assumption) ?_) | omega | (· simp) | (· (simp; omega))))) (by omega)).mono ?_; rintro e10 w10 ⟨x10, e10h, HD10, ht10, ho10, hn10, hb10⟩; have HT10 := Lib.hid ht10; have HD10 := Lib.hid (HD10.out.trans HDa0.out); obtain ⟨x10_0A, x10_0c, x10_0l, rfl, -, -⟩ := shape_impl_Heap ht10; obtain rfl : e10 = .returned (.agg #[.slice x10_0A x10_0l.length x10_0c]) := e10h; have HO10 := Lib.hid ho10; have HN10 := Lib.hid hn10; clear ht10 ho10 hn10; have hz10 := hb10.size; (try simp only [World.size_alloc, World.size_drew, World.heap_drewN, World.size_setCell] at hz10); have z10_3_0 : w10.cell? ⟨g3, 0, none⟩ = some (.slice x6_0A x6_0l.length x6_0c) := cell_of (by exact (by repeat (first | (with_reducible assumption) | (with_reducible refine hp_drew ?_) | (with_reducible refine hp_drewN ?_) | (with_reducible refine hp_alloc ?_ ?_) | (refine hp_below (by with_reducible assumption) ?_ ?_) | omega | (· simp) | (· (simp; omega)))) : w10.heap[g3]? = some (.cells #[.slice x6_0A x6_0l.length x6_0c] 31 (0, 0))) rfl; have z10_0_0 : w10.cell? ⟨g0, 0, none⟩ = some (.slice a0_0A a0_0l.length a0_0c) := cell_of (by exact (by repeat (first | (with_reducible assumption) | (with_reducible refine hp_drew ?_) | (with_reducible refine hp_drewN ?_) | (with_reducible refine hp_alloc ?_ ?_) | (refine hp_below (by with_reducible assumption) ?_ ?_) | omega | (· simp) | (· (simp; omega)))) : w10.heap[g0]? = some (.cells #[.slice a0_0A a0_0l.length a0_0c] 24 (0, 0))) rfl)
                      | (go_at_call 21; refine (eqHeap_all HT6.out HT10.out ((show (E.agg [.lst 4 58 x6_0A x6_0c x6_0l]).d = D0 from HD6.out).trans (show (E.agg [.lst 4 58 x10_0A x10_0c x10_0l]).d = D0 from HD10.out).symm) _ (by have h : (E.agg [.lst 4 58 x6_0A x6_0c x6_0l]).In W7 := HO7_6.out.inn; exact (by repeat (first | (with_reducible assumption) | (with_reducible refine E.In.drew ?_) | (with_reducible refine E.In.drewN ?_ _) | (with_reducible refine E.In.alloc ?_ _) | (refine E.In.below ?_ (by with_reducible assumption) ?_) | omega | (· simp) | (· (simp; omega))))) (by have h := HO10.out.inn; exact (by repeat (first | (with_reducible assumption) | (with_reducible refine E.In.drew ?_) | (with_reducible refine E.In.drewN ?_ _) | (with_reducible refine E.In.alloc ?_ _) | (refine E.In.below ?_ (by with_reducible assumption) ?_) | omega | (· simp) | (· (simp; omega)))))).mono ?_; rintro e w11 ⟨rfl, hb11⟩; have hz11 := hb11.size; (try simp only [World.size_alloc, World.size_drew, World.heap_drewN, World.size_setCell] at hz11); have z11_3_0 : w11.cell? ⟨g3, 0, none⟩ = some (.slice x6_0A x6_0l.length x6_0c) := cell_of (by exact (by repeat (first | (with_reducible assumption) | (with_reducible refine hp_drew ?_) | (with_reducible refine hp_drewN ?_) | (with_reducible refine hp_alloc ?_ ?_) | (refine hp_below (by with_reducible assumption) ?_ ?_) | omega | (· simp) | (· (simp; omega)))) : w11.heap[g3]? = some (.cells #[.slice x6_0A x6_0l.length x6_0c] 31 (0, 0))) rfl; have z11_0_0 : w11.cell? ⟨g0, 0, none⟩ = some (.slice a0_0A a0_0l.length a0_0c) := cell_of (by exact (by repeat (first | (with_reducible assumption) | (with_reducible refine hp_drew ?_) | (with_reducible refine hp_drewN ?_) | (with_reducible refine hp_alloc ?_ ?_) | (refine hp_below (by with_reducible assumption) ?_ ?_) | omega | (· simp) | (· (simp; omega)))) : w11.heap[g0]? = some (.cells #[.slice a0_0A a0_0l.length a0_0c] 24 (0, 0))) rfl)))
                  all_goals
                    go_wp2_with fail
                    go_meet
                    refine ⟨rfl, ?_⟩
                    · exact (by repeat (first | (with_reducible refine Below.setCell ?_ (by first | omega | (· simp) | (· (simp; omega))) _) | (with_reducible refine Below.alloc ?_ (by first | omega | (· simp) | (· (simp; omega))) _) | (with_reducible refine Below.drew ?_) | (with_reducible refine bdrewN ?_ _) | (with_reducible exact Below.refl _ _) | (with_reducible assumption) | (with_reducible refine Below.trans ?_ (Below.mono (by assumption) (by first | omega | (· simp) | (· (simp; omega))))) | (with_reducible refine Below.trans ?_ (Kp.below (by assumption) (by first | omega | (· simp) | (· (simp; omega))) (by first | omega | (· simp) | (· (simp; omega)))))))
                case rest =>
                  obtain ⟨rfl, hb8⟩ := hcut
                  obtain ⟨W8, hWeq⟩ : ∃ W : World, W = wc := ⟨_, rfl⟩
                  subst hWeq
                  have hs8 := hb8.size
                  have B8_0 := (hb8.block g0 (by omega)).trans B7_0
                  clear B7_0
                  have B8_1 := (hb8.block g1 (by omega)).trans B7_1
                  clear B7_1
                  have B8_2 := (hb8.block g2 (by omega)).trans B7_2
                  clear B7_2
                  have B8_3 := (hb8.block g3 (by omega)).trans B7_3
                  clear B7_3
                  have B8_4 := (hb8.block g4 (by omega)).trans B7_4
                  clear B7_4
                  have RA8_0 : (E.agg [.lst 4 155 a0_0A a0_0c a0_0l]).Re W8 0 w.heap.size := RA7_0.below hb8 (by omega)
                  clear RA7_0
                  have RA8_1 : (E.agg [.int .i64 a1_0, .int .i64 a1_1, .str a1_2]).Re W8 0 w.heap.size := RA7_1.below hb8 (by omega)
                  clear RA7_1
                  have I8_5a := I7_5a.below hb8 (by omega)
                  clear I7_5a
                  have HO8_6 := Lib.hid (HO7_6.out.below hb8 (by omega))
                  clear HO7_6
                  have HO8_8a := Lib.hid (HO7_8a.out.below hb8 (by omega))
                  clear HO7_8a
                  have hB8 : Below w.heap.size w W8 := hB7.trans (hb8.mono (by omega))
                  go_upto_region 16 with fail
                  go_cut [11] (fun s11 wx => s11 = .int .i64 (1 + ((E.agg [.lst 4 58 x6_0A x6_0c x6_0l]).cnt : Int)) ∧ Hid (((E.agg [.lst 4 58 x6_0A x6_0c x6_0l]).mk0 1).Ho wx W4.heap.size W5.heap.size) ∧ Hid (Fr (E.agg [.lst 4 58 x6_0A x6_0c x6_0l]).fp W8 wx))
                  case first =>
                    have hwW := hB8.size
                    have ltW3 : g3 < W8.heap.size := by omega
                    have hiW6 : W5.heap.size ≤ W8.heap.size := by omega
                    clear hs1 lu0 lb0 lu1 lb1 hs2 hs3 hs4 lu2 lb2 lu3 lb3 nb3_6 hs6 lu4 lb4 nb4_8a hs7 hs8
                    clear B8_0 B8_1 B8_2 B8_4 I8_5a HO8_8a
                    have z0_3_0 : W8.cell? ⟨g3, 0, none⟩ = some (.slice x6_0A x6_0l.length x6_0c) := cell_of B8_3 rfl
                    go_wp2_with fail
                    go_at_call 22
                    refine (markHeap_all HT6.out _ _ _ _ HO8_6.out HN6.out (by omega) (by omega) (by have := cnt_of HT6.out HD6 (by omega); omega)).mono ?_; rintro e w12 ⟨rfl, HOm12, hf12⟩
                    go_wp2_with fail
                    go_meet
                    refine ⟨rfl, ?_, ?_⟩
                    · exact HOm12
                    · exact hf12
                  case rest =>
                    obtain ⟨rfl, HOm9_6, hF9⟩ := hcut
                    obtain ⟨W9, hWeq⟩ : ∃ W : World, W = wc := ⟨_, rfl⟩
                    subst hWeq
                    have hs9 := hF9.out.size
                    have B9_0 := (hF9.out.block g0 (by omega) (fun hm => by have := HO8_6.out.lt _ hm; omega)).trans B8_0
                    clear B8_0
                    have B9_1 := (hF9.out.block g1 (by omega) (fun hm => by have := HO8_6.out.lt _ hm; omega)).trans B8_1
                    clear B8_1
                    have B9_2 := (hF9.out.block g2 (by omega) (fun hm => by have := HO8_6.out.lt _ hm; omega)).trans B8_2
                    clear B8_2
                    have B9_3 := (hF9.out.block g3 (by omega) (nb3_6)).trans B8_3
                    clear B8_3
                    have B9_4 := (hF9.out.block g4 (by omega) (fun hm => by have := HO8_6.out.lt _ hm; omega)).trans B8_4
                    clear B8_4
                    have RA9_0 : (E.agg [.lst 4 155 a0_0A a0_0c a0_0l]).Re W9 0 w.heap.size := RA8_0.kp (lo' := w.heap.size) (hi' := W8.heap.size) (hF9.out.kp (fun b hb => by have := HO8_6.out.lt b hb; omega)) (.inl (Nat.le_refl _))
                    clear RA8_0
                    have RA9_1 : (E.agg [.int .i64 a1_0, .int .i64 a1_1, .str a1_2]).Re W9 0 w.heap.size := RA8_1.kp (lo' := w.heap.size) (hi' := W8.heap.size) (hF9.out.kp (fun b hb => by have := HO8_6.out.lt b hb; omega)) (.inl (Nat.le_refl _))
                    clear RA8_1
                    have I9_5a := I8_5a.kp (lo' := W4.heap.size) (hi' := W5.heap.size) (hF9.out.kp (fun b hb => by have := HO8_6.out.lt b hb; omega)) (.inl (by omega))
                    clear I8_5a
                    have HO9_8a := Lib.hid (HO8_8a.out.fr hF9.out (fun b hb hm => by have h1 := HO8_8a.out.lt b hb; have h2 := HO8_6.out.lt b hm; omega))
                    clear HO8_8a
                    have hB9 : Below w.heap.size w W9 := hB8.trans (hF9.out.below (fun b hb => by have := HO8_6.out.lt b hb; omega) (by omega))
                    go_upto_region 17 with fail
                    go_cut [72] (fun s72 wx => s72 = .bool false ∧ Below W9.heap.size W9 wx)
                    case first =>
                      have hwW := hB9.size
                      have ltW4 : g4 < W9.heap.size := by omega
                      have ltW2 : g2 < W9.heap.size := by omega
                      have hiW5a : W4.heap.size ≤ W9.heap.size := by omega
                      have hiW8a : W6.heap.size ≤ W9.heap.size := by omega
                      clear hs1 lu0 lb0 lu1 lb1 hs2 hs3 lu2 lb2 hs5 lu3 lb3 nb3_6 lu4 lb4 nb4_8a hs7 hs8 hs9
                      clear B9_0 B9_1 B9_3 HOm9_6
                      have z0_4_0 : W9.cell? ⟨g4, 0, none⟩ = some (.slice x8a_0A x8a_0l.length x8a_0c) := cell_of B9_4 rfl
                      have z0_2_0 : W9.cell? ⟨g2, 0, none⟩ = some (.slice x5a_0A x5a_0l.length x5a_0c) := cell_of B9_2 rfl
                      go_wp2_with fail
                      go_at_call 21
                      refine (eqHeap_all HT8a.out HT5a.out ((show (E.agg [.lst 4 58 x8a_0A x8a_0c x8a_0l]).d = allD D0 D1 from HD8a.out).trans (show (E.agg [.lst 4 58 x5a_0A x5a_0c x5a_0l]).d = allD D0 D1 from HD5a.out).symm) _ (by have h : (E.agg [.lst 4 58 x8a_0A x8a_0c x8a_0l]).In W9 := HO9_8a.out.inn; exact (by repeat (first | (with_reducible assumption) | (with_reducible refine E.In.drew ?_) | (with_reducible refine E.In.drewN ?_ _) | (with_reducible refine E.In.alloc ?_ _) | (refine E.In.below ?_ (by with_reducible assumption) ?_) | omega | (· simp) | (· (simp; omega))))) (by have h : (E.agg [.lst 4 58 x5a_0A x5a_0c x5a_0l]).In W9 := I9_5a.inn (by omega); exact (by repeat (first | (with_reducible assumption) | (with_reducible refine E.In.drew ?_) | (with_reducible refine E.In.drewN ?_ _) | (with_reducible refine E.In.alloc ?_ _) | (refine E.In.below ?_ (by with_reducible assumption) ?_) | omega | (· simp) | (· (simp; omega)))))).mono ?_; rintro e w13 ⟨rfl, hb13⟩; have hz13 := hb13.size; (try simp only [World.size_alloc, World.size_drew, World.heap_drewN, World.size_setCell] at hz13)
                      go_wp2_with fail
                      go_meet
                      refine ⟨rfl, ?_⟩
                      · exact (by repeat (first | (with_reducible refine Below.setCell ?_ (by first | omega | (· simp) | (· (simp; omega))) _) | (with_reducible refine Below.alloc ?_ (by first | omega | (· simp) | (· (simp; omega))) _) | (with_reducible refine Below.drew ?_) | (with_reducible refine bdrewN ?_ _) | (with_reducible exact Below.refl _ _) | (with_reducible assumption) | (with_reducible refine Below.trans ?_ (Below.mono (by assumption) (by first | omega | (· simp) | (· (simp; omega))))) | (with_reducible refine Below.trans ?_ (Kp.below (by assumption) (by first | omega | (· simp) | (· (simp; omega))) (by first | omega | (· simp) | (· (simp; omega)))))))
                    case rest =>
                      obtain ⟨rfl, hb10⟩ := hcut
                      obtain ⟨W10, hWeq⟩ : ∃ W : World, W = wc := ⟨_, rfl⟩
                      subst hWeq
                      have hs10 := hb10.size
                      have B10_0 := (hb10.block g0 (by omega)).trans B9_0
                      clear B9_0
                      have B10_1 := (hb10.block g1 (by omega)).trans B9_1
                      clear B9_1
                      have B10_2 := (hb10.block g2 (by omega)).trans B9_2
                      clear B9_2
                      have B10_3 := (hb10.block g3 (by omega)).trans B9_3
                      clear B9_3
                      have B10_4 := (hb10.block g4 (by omega)).trans B9_4
                      clear B9_4
                      have RA10_0 : (E.agg [.lst 4 155 a0_0A a0_0c a0_0l]).Re W10 0 w.heap.size := RA9_0.below hb10 (by omega)
                      clear RA9_0
                      have RA10_1 : (E.agg [.int .i64 a1_0, .int .i64 a1_1, .str a1_2]).Re W10 0 w.heap.size := RA9_1.below hb10 (by omega)
                      clear RA9_1
                      have I10_5a := I9_5a.below hb10 (by omega)
                      clear I9_5a
                      have HOm10_6 := Lib.hid (HOm9_6.out.below hb10 (by omega))
                      clear HOm9_6
                      have HO10_8a := Lib.hid (HO9_8a.out.below hb10 (by omega))
                      clear HO9_8a
                      have hB10 : Below w.heap.size w W10 := hB9.trans (hb10.mono (by omega))
                      go_upto_region 20 with fail
                      go_cut [12] (fun s12 wx => s12 = .int .i64 (1 + ((E.agg [.lst 4 58 x8a_0A x8a_0c x8a_0l]).cnt : Int)) ∧ Hid (((E.agg [.lst 4 58 x8a_0A x8a_0c x8a_0l]).mk0 1).Ho wx W5.heap.size W6.heap.size) ∧ Hid (Fr (E.agg [.lst 4 58 x8a_0A x8a_0c x8a_0l]).fp W10 wx))
                      case first =>
                        have hwW := hB10.size
                        have ltW4 : g4 < W10.heap.size := by omega
                        have hiW8a : W6.heap.size ≤ W10.heap.size := by omega
                        clear hs1 lu0 lb0 lu1 lb1 hs2 hs3 hs4 lu2 lb2 hs5 lu3 lb3 nb3_6 lu4 lb4 nb4_8a hs7 hs8 hs9 hs10
                        clear B10_0 B10_1 B10_2 B10_3 I10_5a HOm10_6
                        have z0_4_0 : W10.cell? ⟨g4, 0, none⟩ = some (.slice x8a_0A x8a_0l.length x8a_0c) := cell_of B10_4 rfl
                        go_wp2_with fail
                        go_at_call 22
                        refine (markHeap_all HT8a.out _ _ _ _ HO10_8a.out HN8a.out (by omega) (by omega) (by have := cnt_of HT8a.out HD8a (allD_sz hD0 hD1); omega)).mono ?_; rintro e w14 ⟨rfl, HOm14, hf14⟩
                        go_wp2_with fail
                        go_meet
                        refine ⟨rfl, ?_, ?_⟩
                        · exact HOm14
                        · exact hf14
                      case rest =>
                        obtain ⟨rfl, HOm11_8a, hF11⟩ := hcut
                        obtain ⟨W11, hWeq⟩ : ∃ W : World, W = wc := ⟨_, rfl⟩
                        subst hWeq
                        have hs11 := hF11.out.size
                        have B11_0 := (hF11.out.block g0 (by omega) (fun hm => by have := HO10_8a.out.lt _ hm; omega)).trans B10_0
                        clear B10_0
                        have B11_1 := (hF11.out.block g1 (by omega) (fun hm => by have := HO10_8a.out.lt _ hm; omega)).trans B10_1
                        clear B10_1
                        have B11_2 := (hF11.out.block g2 (by omega) (fun hm => by have := HO10_8a.out.lt _ hm; omega)).trans B10_2
                        clear B10_2
                        have B11_3 := (hF11.out.block g3 (by omega) (fun hm => by have := HO10_8a.out.lt _ hm; omega)).trans B10_3
                        clear B10_3
                        have B11_4 := (hF11.out.block g4 (by omega) (nb4_8a)).trans B10_4
                        clear B10_4
                        have RA11_0 : (E.agg [.lst 4 155 a0_0A a0_0c a0_0l]).Re W11 0 w.heap.size := RA10_0.kp (lo' := w.heap.size) (hi' := W10.heap.size) (hF11.out.kp (fun b hb => by have := HO10_8a.out.lt b hb; omega)) (.inl (Nat.le_refl _))
                        clear RA10_0
                        have RA11_1 : (E.agg [.int .i64 a1_0, .int .i64 a1_1, .str a1_2]).Re W11 0 w.heap.size := RA10_1.kp (lo' := w.heap.size) (hi' := W10.heap.size) (hF11.out.kp (fun b hb => by have := HO10_8a.out.lt b hb; omega)) (.inl (Nat.le_refl _))
                        clear RA10_1
                        have I11_5a := I10_5a.kp (lo' := W5.heap.size) (hi' := W6.heap.size) (hF11.out.kp (fun b hb => by have := HO10_8a.out.lt b hb; omega)) (.inl (by omega))
                        clear I10_5a
                        have hB11 : Below w.heap.size w W11 := hB10.trans (hF11.out.below (fun b hb => by have := HO10_8a.out.lt b hb; omega) (by omega))
                        go_upto_region 22 with fail
                        go_cut [13] (fun s13 wx => s13 = .int .i64 (1 + ((E.agg [.lst 4 58 x8a_0A x8a_0c x8a_0l]).cnt : Int)) ∧ Below W11.heap.size W11 wx)
                        case first =>
                          have hwW := hB11.size
                          have ltW4 : g4 < W11.heap.size := by omega
                          have hiW8a : W6.heap.size ≤ W11.heap.size := by omega
                          clear hs1 lu0 lb0 lu1 lb1 hs2 hs3 hs4 lu2 lb2 hs5 lu3 lb3 nb3_6 lu4 lb4 nb4_8a hs7 hs8 hs9 hs10 hs11
                          clear B11_0 B11_1 B11_2 B11_3 I11_5a
                          have z0_4_0 : W11.cell? ⟨g4, 0, none⟩ = some (.slice x8a_0A x8a_0l.length x8a_0c) := cell_of B11_4 rfl
                          go_wp2_with fail
                          go_at_call 23
                          refine (heldHeap_all HT8a.out _ _ (by have h : ((E.agg [.lst 4 58 x8a_0A x8a_0c x8a_0l]).mk0 1).In W11 := HOm11_8a.out.inn; exact (by repeat (first | (with_reducible assumption) | (with_reducible refine E.In.drew ?_) | (with_reducible refine E.In.drewN ?_ _) | (with_reducible refine E.In.alloc ?_ _) | (refine E.In.below ?_ (by with_reducible assumption) ?_) | omega | (· simp) | (· (simp; omega))))) (by omega) (by have := cnt_of HT8a.out HD8a (allD_sz hD0 hD1); omega)).mono ?_; rintro e w15 ⟨rfl, hb15⟩
                          go_wp2_with fail
                          go_meet
                          refine ⟨rfl, ?_⟩
                          · exact (by repeat (first | (with_reducible refine Below.setCell ?_ (by first | omega | (· simp) | (· (simp; omega))) _) | (with_reducible refine Below.alloc ?_ (by first | omega | (· simp) | (· (simp; omega))) _) | (with_reducible refine Below.drew ?_) | (with_reducible refine bdrewN ?_ _) | (with_reducible exact Below.refl _ _) | (with_reducible assumption) | (with_reducible refine Below.trans ?_ (Below.mono (by assumption) (by first | omega | (· simp) | (· (simp; omega))))) | (with_reducible refine Below.trans ?_ (Kp.below (by assumption) (by first | omega | (· simp) | (· (simp; omega))) (by first | omega | (· simp) | (· (simp; omega)))))))
                        case rest =>
                          obtain ⟨rfl, hb12⟩ := hcut
                          obtain ⟨W12, hWeq⟩ : ∃ W : World, W = wc := ⟨_, rfl⟩
                          subst hWeq
                          have hs12 := hb12.size
                          have B12_0 := (hb12.block g0 (by omega)).trans B11_0
                          clear B11_0
                          have B12_1 := (hb12.block g1 (by omega)).trans B11_1
                          clear B11_1
                          have B12_2 := (hb12.block g2 (by omega)).trans B11_2
                          clear B11_2
                          have B12_3 := (hb12.block g3 (by omega)).trans B11_3
                          clear B11_3
                          have B12_4 := (hb12.block g4 (by omega)).trans B11_4
                          clear B11_4
                          have RA12_0 : (E.agg [.lst 4 155 a0_0A a0_0c a0_0l]).Re W12 0 w.heap.size := RA11_0.below hb12 (by omega)
                          clear RA11_0
                          have RA12_1 : (E.agg [.int .i64 a1_0, .int .i64 a1_1, .str a1_2]).Re W12 0 w.heap.size := RA11_1.below hb12 (by omega)
                          clear RA11_1
                          have I12_5a := I11_5a.below hb12 (by omega)
                          clear I11_5a
                          have HOm12_8a := Lib.hid (HOm11_8a.out.below hb12 (by omega))
                          clear HOm11_8a
                          have hB12 : Below w.heap.size w W12 := hB11.trans (hb12.mono (by omega))
                          go_upto_region 27 with fail
                          go_cut [14, 15] (fun s14 s15 wx => ∃ (g5 : Nat) (x18a_0A : Option Addr) (x18a_0c : Nat) (x18a_0l : List E), s14 = .pointer (some ⟨g5, 0, none⟩) ∧ s15 = .int .i64 ((allID D0 D1 : Int)) ∧ wx.heap[g5]? = some (.cells #[.slice x18a_0A x18a_0l.length x18a_0c] 31 (0, 0)) ∧ W12.heap.size ≤ g5 ∧ g5 ∉ (E.agg [.lst 4 58 x18a_0A x18a_0c x18a_0l]).fp ∧ Hid ((E.agg [.lst 4 58 x18a_0A x18a_0c x18a_0l]).Ty Try.prog 31) ∧ Hid ((E.agg [.lst 4 58 x18a_0A x18a_0c x18a_0l]).d = allD D0 D1) ∧ Hid ((E.agg [.lst 4 58 x18a_0A x18a_0c x18a_0l]).Ho wx W12.heap.size wx.heap.size) ∧ Hid (E.agg [.lst 4 58 x18a_0A x18a_0c x18a_0l]).fp.Nodup ∧ Below W12.heap.size W12 wx)
                          case first =>
                            have hwW := hB12.size
                            have ltW0 : g0 < W12.heap.size := by omega
                            have ltW1 : g1 < W12.heap.size := by omega
                            clear hs1 lu0 lb0 lu1 lb1 hs2 hs3 hs4 lu2 lb2 hs5 lu3 lb3 nb3_6 hs6 lu4 lb4 nb4_8a hs7 hs8 hs9 hs10 hs11 hs12
                            clear B12_2 B12_3 B12_4 I12_5a HOm12_8a
                            have z0_0_0 : W12.cell? ⟨g0, 0, none⟩ = some (.slice a0_0A a0_0l.length a0_0c) := cell_of B12_0 rfl
                            have z0_1_0 : W12.cell? ⟨g1, 0, none⟩ = some (.int .i64 a1_0) := cell_of B12_1 rfl
                            have z0_1_1 : W12.cell? ⟨g1, 1, none⟩ = some (.int .i64 a1_1) := cell_of B12_1 rfl
                            have z0_1_2 : W12.cell? ⟨g1, 2, none⟩ = some (.string a1_2) := cell_of B12_1 rfl
                            go_region_held3 (fun w' => w'.cell? ⟨g0, 0, none⟩ = some (.slice a0_0A a0_0l.length a0_0c) ∧ w'.cell? ⟨g1, 0, none⟩ = some (.int .i64 a1_0) ∧ w'.cell? ⟨g1, 1, none⟩ = some (.int .i64 a1_1) ∧ w'.cell? ⟨g1, 2, none⟩ = some (.string a1_2))
                              (first | exact ⟨z0_0_0, z0_1_0, z0_1_1, z0_1_2⟩ | (refine ⟨?_, ?_, ?_, ?_⟩ <;> (repeat (first | (with_reducible assumption) | (with_reducible refine cell_set_ne ?_ ?_) | (with_reducible refine cell_drew ?_) | (with_reducible refine cell_drewN ?_) | (with_reducible refine cell_alloc ?_ ?_) | omega | (simp; done) | (simp; omega)))) | skip)
                              ((first
                                | (go_at_call 18; refine (toHeap_all TA0.out _ (by have h : (E.agg [.lst 4 155 a0_0A a0_0c a0_0l]).In W12 := E.Re.inn RA12_0 (by omega); exact (by repeat (first | (with_reducible assumption) | (with_reducible refine E.In.drew ?_) | (with_reducible refine E.In.drewN ?_ _) | (with_reducible refine E.In.alloc ?_ _) | (refine E.In.below ?_ (by with_reducible assumption) ?_) | omega | (· simp) | (· (simp; omega))))) (by omega)).mono ?_; rintro e16 w16 ⟨x16, e16h, HD16, ht16, ho16, hn16, hb16⟩; have HT16 := Lib.hid ht16; have HD16 := Lib.hid (HD16.out.trans HDa0.out); obtain ⟨x16_0A, x16_0c, x16_0l, rfl, -, -⟩ := shape_impl_Heap ht16; obtain rfl : e16 = .returned (.agg #[.slice x16_0A x16_0l.length x16_0c]) := e16h; have HO16 := Lib.hid ho16; have HN16 := Lib.hid hn16; clear ht16 ho16 hn16; have hz16 := hb16.size; (try simp only [World.size_alloc, World.size_drew, World.heap_drewN, World.size_setCell] at hz16); have z16_0_0 : w16.cell? ⟨g0, 0, none⟩ = some (.slice a0_0A a0_0l.length a0_0c) := cell_of (by exact (by repeat (first | (with_reducible assumption) | (with_reducible refine hp_drew ?_) | (with_reducible refine hp_drewN ?_) | (with_reducible refine hp_alloc ?_ ?_) | (refine hp_below (by with_reducible assumption) ?_ ?_) | omega | (· simp) | (· (simp; omega)))) : w16.heap[g0]? = some (.cells #[.slice a0_0A a0_0l.length a0_0c] 24 (0, 0))) rfl; have z16_1_0 : w16.cell? ⟨g1, 0, none⟩ = some (.int .i64 a1_0) := cell_of (by exact (by repeat (first | (with_reducible assumption) | (with_reducible refine hp_drew ?_) | (with_reducible refine hp_drewN ?_) | (with_reducible refine hp_alloc ?_ ?_) | (refine hp_below (by with_reducible assumption) ?_ ?_) | omega | (· simp) | (· (simp; omega)))) : w16.heap[g1]? = some (.cells #[.int .i64 a1_0, .int .i64 a1_1, .string a1_2] 26 (0, 0))) rfl; have z16_1_1 : w16.cell? ⟨g1, 1, none⟩ = some (.int .i64 a1_1) := cell_of (by exact (by repeat (first | (with_reducible assumption) | (with_reducible refine hp_drew ?_) | (with_reducible refine hp_drewN ?_) | (with_reducible refine hp_alloc ?_ ?_) | (refine hp_below (by with_reducible assumption) ?_ ?_) | omega | (· simp) | (· (simp; omega)))) : w16.heap[g1]? = some (.cells #[.int .i64 a1_0, .int .i64 a1_1, .string a1_2] 26 (0, 0))) rfl; have z16_1_2 : w16.cell? ⟨g1, 2, none⟩ = some (.string a1_2) := cell_of (by exact (by repeat (first | (with_reducible assumption) | (with_reducible refine hp_drew ?_) | (with_reducible refine hp_drewN ?_) | (with_reducible refine hp_alloc ?_ ?_) | (refine hp_below (by with_reducible assumption) ?_ ?_) | omega | (· simp) | (· (simp; omega)))) : w16.heap[g1]? = some (.cells #[.int .i64 a1_0, .int .i64 a1_1, .string a1_2] 26 (0, 0))) rfl; obtain ⟨kc16, kf16⟩ := bcell hb16; (try (have hl16_0 : W12.heap.size < w16.heap.size := by omega)))
                                | (go_at_call 19; refine (toVal_all TA1.out _ (by have h : (E.agg [.int .i64 a1_0, .int .i64 a1_1, .str a1_2]).In W12 := E.Re.inn RA12_1 (by omega); exact (by repeat (first | (with_reducible assumption) | (with_reducible refine E.In.drew ?_) | (with_reducible refine E.In.drewN ?_ _) | (with_reducible refine E.In.alloc ?_ _) | (refine E.In.below ?_ (by with_reducible assumption) ?_) | omega | (· simp) | (· (simp; omega))))) (by omega)).mono ?_; rintro e17 w17 ⟨x17, e17h, HD17, ht17, ho17, hn17, hb17⟩; have HT17 := Lib.hid ht17; have HD17 := Lib.hid (HD17.out.trans HDa1.out); obtain ⟨x17_0, x17_1, x17_2, rfl, -, -, -, -⟩ := shape_impl_Val ht17; obtain rfl : e17 = .returned (.agg #[.int .i64 x17_0, .int .i64 x17_1, .string x17_2]) := e17h; have HO17 := Lib.hid ho17; have HN17 := Lib.hid hn17; clear ht17 ho17 hn17; have hz17 := hb17.size; (try simp only [World.size_alloc, World.size_drew, World.heap_drewN, World.size_setCell] at hz17); have z17_0_0 : w17.cell? ⟨g0, 0, none⟩ = some (.slice a0_0A a0_0l.length a0_0c) := cell_of (by exact (by repeat (first | (with_reducible assumption) | (with_reducible refine hp_drew ?_) | (with_reducible refine hp_drewN ?_) | (with_reducible refine hp_alloc ?_ ?_) | (refine hp_below (by with_reducible assumption) ?_ ?_) | omega | (· simp) | (· (simp; omega)))) : w17.heap[g0]? = some (.cells #[.slice a0_0A a0_0l.length a0_0c] 24 (0, 0))) rfl; have z17_1_0 : w17.cell? ⟨g1, 0, none⟩ = some (.int .i64 a1_0) := cell_of (by exact (by repeat (first | (with_reducible assumption) | (with_reducible refine hp_drew ?_) | (with_reducible refine hp_drewN ?_) | (with_reducible refine hp_alloc ?_ ?_) | (refine hp_below (by with_reducible assumption) ?_ ?_) | omega | (· simp) | (· (simp; omega)))) : w17.heap[g1]? = some (.cells #[.int .i64 a1_0, .int .i64 a1_1, .string a1_2] 26 (0, 0))) rfl; have z17_1_1 : w17.cell? ⟨g1, 1, none⟩ = some (.int .i64 a1_1) := cell_of (by exact (by repeat (first | (with_reducible assumption) | (with_reducible refine hp_drew ?_) | (with_reducible refine hp_drewN ?_) | (with_reducible refine hp_alloc ?_ ?_) | (refine hp_below (by with_reducible assumption) ?_ ?_) | omega | (· simp) | (· (simp; omega)))) : w17.heap[g1]? = some (.cells #[.int .i64 a1_0, .int .i64 a1_1, .string a1_2] 26 (0, 0))) rfl; have z17_1_2 : w17.cell? ⟨g1, 2, none⟩ = some (.string a1_2) := cell_of (by exact (by repeat (first | (with_reducible assumption) | (with_reducible refine hp_drew ?_) | (with_reducible refine hp_drewN ?_) | (with_reducible refine hp_alloc ?_ ?_) | (refine hp_below (by with_reducible assumption) ?_ ?_) | omega | (· simp) | (· (simp; omega)))) : w17.heap[g1]? = some (.cells #[.int .i64 a1_0, .int .i64 a1_1, .string a1_2] 26 (0, 0))) rfl; obtain ⟨kc17, kf17⟩ := bcell hb17; (try (have hl17_0 : W12.heap.size < w17.heap.size := by omega)); (try (have hl17_1 : w16.heap.size < w17.heap.size := by omega)))
                                | (go_at_call 20; refine (implAlloc_u HT16.out HT17.out _ (by have h := HO16.out.inn; exact (by repeat (first | (with_reducible assumption) | (with_reducible refine E.In.drew ?_) | (with_reducible refine E.In.drewN ?_ _) | (with_reducible refine E.In.alloc ?_ _) | (refine E.In.below ?_ (by with_reducible assumption) ?_) | omega | (· simp) | (· (simp; omega))))) (sz_le HD16 hD0)).mono ?_; rintro e18 w18 ⟨x18a, e18h, HD18a, ht18a, ho18a, hn18a, hb18⟩; have HD18a : Hid (x18a.d = allD D0 D1) := (by have h := HD18a.out; rw [HD16.out] at h; rw [HD17.out] at h; exact h); have HT18a := Lib.hid ht18a; obtain ⟨x18a_0A, x18a_0c, x18a_0l, rfl, -, -⟩ := shape_impl_Heap ht18a; rw [HD16.out] at e18h; rw [HD17.out] at e18h; obtain rfl : e18 = .returned (.tuple #[.agg #[.slice x18a_0A x18a_0l.length x18a_0c], .int .i64 ((allID D0 D1 : Int))]) := e18h; have HO18a := Lib.hid ho18a; have HN18a := Lib.hid hn18a; clear ho18a hn18a ht18a; have hz18 := hb18.size; (try simp only [World.size_alloc, World.size_drew, World.heap_drewN, World.size_setCell] at hz18); have z18_0_0 : w18.cell? ⟨g0, 0, none⟩ = some (.slice a0_0A a0_0l.length a0_0c) := cell_of (by exact (by repeat (first | (with_reducible assumption) | (with_reducible refine hp_drew ?_) | (with_reducible refine hp_drewN ?_) | (with_reducible refine hp_alloc ?_ ?_) | (refine hp_below (by with_reducible assumption) ?_ ?_) | omega | (· simp) | (· (simp; omega)))) : w18.heap[g0]? = some (.cells #[.slice a0_0A a0_0l.length a0_0c] 24 (0, 0))) rfl; have z18_1_0 : w18.cell? ⟨g1, 0, none⟩ = some (.int .i64 a1_0) := cell_of (by exact (by repeat (first | (with_reducible assumption) | (with_reducible refine hp_drew ?_) | (with_reducible refine hp_drewN ?_) | (with_reducible refine hp_alloc ?_ ?_) | (refine hp_below (by with_reducible assumption) ?_ ?_) | omega | (· simp) | (· (simp; omega)))) : w18.heap[g1]? = some (.cells #[.int .i64 a1_0, .int .i64 a1_1, .string a1_2] 26 (0, 0))) rfl; have z18_1_1 : w18.cell? ⟨g1, 1, none⟩ = some (.int .i64 a1_1) := cell_of (by exact (by repeat (first | (with_reducible assumption) | (with_reducible refine hp_drew ?_) | (with_reducible refine hp_drewN ?_) | (with_reducible refine hp_alloc ?_ ?_) | (refine hp_below (by with_reducible assumption) ?_ ?_) | omega | (· simp) | (· (simp; omega)))) : w18.heap[g1]? = some (.cells #[.int .i64 a1_0, .int .i64 a1_1, .string a1_2] 26 (0, 0))) rfl; have z18_1_2 : w18.cell? ⟨g1, 2, none⟩ = some (.string a1_2) := cell_of (by exact (by repeat (first | (with_reducible assumption) | (with_reducible refine hp_drew ?_) | (with_reducible refine hp_drewN ?_) | (with_reducible refine hp_alloc ?_ ?_) | (refine hp_below (by with_reducible assumption) ?_ ?_) | omega | (· simp) | (· (simp; omega)))) : w18.heap[g1]? = some (.cells #[.int .i64 a1_0, .int .i64 a1_1, .string a1_2] 26 (0, 0))) rfl; obtain ⟨kc18, kf18⟩ := bcell hb18; (try (have hl18_0 : W12.heap.size < w18.heap.size := by omega)); (try (have hl18_1 : w16.heap.size < w18.heap.size := by omega)); (try (have hl18_2 : w17.heap.size < w18.heap.size := by omega)))))
                            all_goals
                              go_wp2_with fail
                              go_meet
                              refine ⟨_, x18a_0A, x18a_0c, x18a_0l, rfl, rfl, ?_, ?_, ?_, ?_, ?_, ?_, ?_, ?_⟩
                              · first | ((repeat (first | (with_reducible assumption) | (with_reducible refine hp_drew ?_) | (with_reducible refine hp_drewN ?_) | (refine hp_new ?_; first | rfl | (simp; done)) | (with_reducible refine hp_alloc ?_ ?_) | (refine hp_below (by with_reducible assumption) ?_ ?_) | omega | (· simp) | (· (simp; omega)))); done) | (have X : w18.heap[W12.heap.size]? = some (.cells #[.slice none 0 0] 31 (0, 0)) := (by repeat (first | (with_reducible assumption) | (with_reducible refine hp_drew ?_) | (with_reducible refine hp_drewN ?_) | (refine hp_new ?_; first | rfl | (simp; done)) | (with_reducible refine hp_alloc ?_ ?_) | (refine hp_below (by with_reducible assumption) ?_ ?_) | omega | (· simp) | (· (simp; omega)))); simp only [heap_set, X]; simp [setAt]; done) | (have X : w18.heap[w16.heap.size]? = some (.cells #[.slice none 0 0] 31 (0, 0)) := (by repeat (first | (with_reducible assumption) | (with_reducible refine hp_drew ?_) | (with_reducible refine hp_drewN ?_) | (refine hp_new ?_; first | rfl | (simp; done)) | (with_reducible refine hp_alloc ?_ ?_) | (refine hp_below (by with_reducible assumption) ?_ ?_) | omega | (· simp) | (· (simp; omega)))); simp only [heap_set, X]; simp [setAt]; done) | (have X : w18.heap[w17.heap.size]? = some (.cells #[.slice none 0 0] 31 (0, 0)) := (by repeat (first | (with_reducible assumption) | (with_reducible refine hp_drew ?_) | (with_reducible refine hp_drewN ?_) | (refine hp_new ?_; first | rfl | (simp; done)) | (with_reducible refine hp_alloc ?_ ?_) | (refine hp_below (by with_reducible assumption) ?_ ?_) | omega | (· simp) | (· (simp; omega)))); simp only [heap_set, X]; simp [setAt]; done) | fail
                              · first | omega | (simp; done) | (simp; omega)
                              · (intro hm; have h := HO18a.out.lt _ hm; (try simp only [World.size_alloc, World.size_drew, World.heap_drewN, World.size_setCell] at h); omega)
                              · exact HT18a
                              · exact HD18a
                              · refine E.Ho.fin HO18a.out (fun hh => ?_) ?_ ?_
                                · (repeat (first | (with_reducible assumption) | (with_reducible refine E.Ho.drew ?_) | (with_reducible refine E.Ho.drewN ?_ _) | (with_reducible refine E.Ho.alloc ?_ ?_ _) | (with_reducible refine E.Ho.setAny ?_ ?_ _) | (refine E.Ho.below ?_ (by with_reducible assumption) ?_) | (first | omega | (dsimp only; omega) | (simp only [World.size_alloc, World.size_drew, World.heap_drewN, World.size_setCell]; omega) | (simp; done) | (simp; omega))))
                                · (first | omega | (dsimp only; omega) | (simp only [World.size_alloc, World.size_drew, World.heap_drewN, World.size_setCell]; omega) | (simp; done) | (simp; omega))
                                · (first | omega | (dsimp only; omega) | (simp only [World.size_alloc, World.size_drew, World.heap_drewN, World.size_setCell]; omega) | (simp; done) | (simp; omega))
                              · exact HN18a
                              · exact (by repeat (first | (with_reducible refine Below.setCell ?_ (by first | omega | (· simp) | (· (simp; omega))) _) | (with_reducible refine Below.alloc ?_ (by first | omega | (· simp) | (· (simp; omega))) _) | (with_reducible refine Below.drew ?_) | (with_reducible refine bdrewN ?_ _) | (with_reducible exact Below.refl _ _) | (with_reducible assumption) | (with_reducible refine Below.trans ?_ (Below.mono (by assumption) (by first | omega | (· simp) | (· (simp; omega))))) | (with_reducible refine Below.trans ?_ (Kp.below (by assumption) (by first | omega | (· simp) | (· (simp; omega))) (by first | omega | (· simp) | (· (simp; omega)))))))
                          case rest =>
                            obtain ⟨g5, x18a_0A, x18a_0c, x18a_0l, rfl, rfl, B13_5, lb5, nb5_18a, HT18a, HD18a, HO13_18a, HN18a, hb13⟩ := hcut
                            obtain ⟨W13, hWeq⟩ : ∃ W : World, W = wc := ⟨_, rfl⟩
                            subst hWeq
                            have hs13 := hb13.size
                            have lu5 := blk_lt B13_5
                            have B13_0 := (hb13.block g0 (by omega)).trans B12_0
                            clear B12_0
                            have B13_1 := (hb13.block g1 (by omega)).trans B12_1
                            clear B12_1
                            have B13_2 := (hb13.block g2 (by omega)).trans B12_2
                            clear B12_2
                            have B13_3 := (hb13.block g3 (by omega)).trans B12_3
                            clear B12_3
                            have B13_4 := (hb13.block g4 (by omega)).trans B12_4
                            clear B12_4
                            have RA13_0 : (E.agg [.lst 4 155 a0_0A a0_0c a0_0l]).Re W13 0 w.heap.size := RA12_0.below hb13 (by omega)
                            clear RA12_0
                            have RA13_1 : (E.agg [.int .i64 a1_0, .int .i64 a1_1, .str a1_2]).Re W13 0 w.heap.size := RA12_1.below hb13 (by omega)
                            clear RA12_1
                            have I13_5a := I12_5a.below hb13 (by omega)
                            clear I12_5a
                            have HOm13_8a := Lib.hid (HOm12_8a.out.below hb13 (by omega))
                            clear HOm12_8a
                            have hB13 : Below w.heap.size w W13 := hB12.trans (hb13.mono (by omega))
                            go_upto_region 28 with fail
                            go_cut [100] (fun s100 wx => s100 = .bool false ∧ Below W13.heap.size W13 wx)
                            case first =>
                              have hwW := hB13.size
                              have ltW5 : g5 < W13.heap.size := by omega
                              have ltW2 : g2 < W13.heap.size := by omega
                              have hiW5a : W4.heap.size ≤ W13.heap.size := by omega
                              have hiW18a : W13.heap.size ≤ W13.heap.size := by omega
                              clear hs1 lu0 lb0 lu1 lb1 hs2 hs3 lu2 lb2 hs5 lu3 lb3 nb3_6 hs6 lu4 lb4 nb4_8a hs7 hs8 hs9 hs10 hs11 hs12 lu5 lb5 nb5_18a
                              clear B13_0 B13_1 B13_3 B13_4 HOm13_8a
                              have z0_5_0 : W13.cell? ⟨g5, 0, none⟩ = some (.slice x18a_0A x18a_0l.length x18a_0c) := cell_of B13_5 rfl
                              have z0_2_0 : W13.cell? ⟨g2, 0, none⟩ = some (.slice x5a_0A x5a_0l.length x5a_0c) := cell_of B13_2 rfl
                              go_wp2_with fail
                              go_at_call 21
                              refine (eqHeap_all HT18a.out HT5a.out ((show (E.agg [.lst 4 58 x18a_0A x18a_0c x18a_0l]).d = allD D0 D1 from HD18a.out).trans (show (E.agg [.lst 4 58 x5a_0A x5a_0c x5a_0l]).d = allD D0 D1 from HD5a.out).symm) _ (by have h : (E.agg [.lst 4 58 x18a_0A x18a_0c x18a_0l]).In W13 := HO13_18a.out.inn; exact (by repeat (first | (with_reducible assumption) | (with_reducible refine E.In.drew ?_) | (with_reducible refine E.In.drewN ?_ _) | (with_reducible refine E.In.alloc ?_ _) | (refine E.In.below ?_ (by with_reducible assumption) ?_) | omega | (· simp) | (· (simp; omega))))) (by have h : (E.agg [.lst 4 58 x5a_0A x5a_0c x5a_0l]).In W13 := I13_5a.inn (by omega); exact (by repeat (first | (with_reducible assumption) | (with_reducible refine E.In.drew ?_) | (with_reducible refine E.In.drewN ?_ _) | (with_reducible refine E.In.alloc ?_ _) | (refine E.In.below ?_ (by with_reducible assumption) ?_) | omega | (· simp) | (· (simp; omega)))))).mono ?_; rintro e w19 ⟨rfl, hb19⟩; have hz19 := hb19.size; (try simp only [World.size_alloc, World.size_drew, World.heap_drewN, World.size_setCell] at hz19)
                              go_wp2_with fail
                              go_meet
                              refine ⟨rfl, ?_⟩
                              · exact (by repeat (first | (with_reducible refine Below.setCell ?_ (by first | omega | (· simp) | (· (simp; omega))) _) | (with_reducible refine Below.alloc ?_ (by first | omega | (· simp) | (· (simp; omega))) _) | (with_reducible refine Below.drew ?_) | (with_reducible refine bdrewN ?_ _) | (with_reducible exact Below.refl _ _) | (with_reducible assumption) | (with_reducible refine Below.trans ?_ (Below.mono (by assumption) (by first | omega | (· simp) | (· (simp; omega))))) | (with_reducible refine Below.trans ?_ (Kp.below (by assumption) (by first | omega | (· simp) | (· (simp; omega))) (by first | omega | (· simp) | (· (simp; omega)))))))
                            case rest =>
                              obtain ⟨rfl, hb14⟩ := hcut
                              obtain ⟨W14, hWeq⟩ : ∃ W : World, W = wc := ⟨_, rfl⟩
                              subst hWeq
                              have hs14 := hb14.size
                              have B14_0 := (hb14.block g0 (by omega)).trans B13_0
                              clear B13_0
                              have B14_1 := (hb14.block g1 (by omega)).trans B13_1
                              clear B13_1
                              have B14_2 := (hb14.block g2 (by omega)).trans B13_2
                              clear B13_2
                              have B14_3 := (hb14.block g3 (by omega)).trans B13_3
                              clear B13_3
                              have B14_4 := (hb14.block g4 (by omega)).trans B13_4
                              clear B13_4
                              have B14_5 := (hb14.block g5 (by omega)).trans B13_5
                              clear B13_5
                              have RA14_0 : (E.agg [.lst 4 155 a0_0A a0_0c a0_0l]).Re W14 0 w.heap.size := RA13_0.below hb14 (by omega)
                              clear RA13_0
                              have RA14_1 : (E.agg [.int .i64 a1_0, .int .i64 a1_1, .str a1_2]).Re W14 0 w.heap.size := RA13_1.below hb14 (by omega)
                              clear RA13_1
                              have I14_5a := I13_5a.below hb14 (by omega)
                              clear I13_5a
                              have HOm14_8a := Lib.hid (HOm13_8a.out.below hb14 (by omega))
                              clear HOm13_8a
                              have HO14_18a := Lib.hid (HO13_18a.out.below hb14 (by omega))
                              clear HO13_18a
                              have hB14 : Below w.heap.size w W14 := hB13.trans (hb14.mono (by omega))
                              go_upto_region 31 with fail
                              go_cut [13] (fun s13 wx => s13 = .int .i64 (1 + ((E.agg [.lst 4 58 x8a_0A x8a_0c x8a_0l]).cnt : Int)) ∧ Below W14.heap.size W14 wx)
                              case first =>
                                have hwW := hB14.size
                                have ltW4 : g4 < W14.heap.size := by omega
                                have hiW8a : W6.heap.size ≤ W14.heap.size := by omega
                                clear hs1 lu0 lb0 lu1 lb1 hs2 hs3 hs4 lu2 lb2 hs5 lu3 lb3 nb3_6 lu4 lb4 nb4_8a hs7 hs8 hs9 hs10 hs11 hs12 hs13 lu5 lb5 nb5_18a hs14
                                clear B14_0 B14_1 B14_2 B14_3 B14_5 I14_5a HO14_18a
                                have z0_4_0 : W14.cell? ⟨g4, 0, none⟩ = some (.slice x8a_0A x8a_0l.length x8a_0c) := cell_of B14_4 rfl
                                go_wp2_with fail
                                go_at_call 23
                                refine (heldHeap_all HT8a.out _ _ (by have h : ((E.agg [.lst 4 58 x8a_0A x8a_0c x8a_0l]).mk0 1).In W14 := HOm14_8a.out.inn; exact (by repeat (first | (with_reducible assumption) | (with_reducible refine E.In.drew ?_) | (with_reducible refine E.In.drewN ?_ _) | (with_reducible refine E.In.alloc ?_ _) | (refine E.In.below ?_ (by with_reducible assumption) ?_) | omega | (· simp) | (· (simp; omega))))) (by omega) (by have := cnt_of HT8a.out HD8a (allD_sz hD0 hD1); omega)).mono ?_; rintro e w20 ⟨rfl, hb20⟩
                                go_wp2_with fail
                                go_meet
                                refine ⟨rfl, ?_⟩
                                · exact (by repeat (first | (with_reducible refine Below.setCell ?_ (by first | omega | (· simp) | (· (simp; omega))) _) | (with_reducible refine Below.alloc ?_ (by first | omega | (· simp) | (· (simp; omega))) _) | (with_reducible refine Below.drew ?_) | (with_reducible refine bdrewN ?_ _) | (with_reducible exact Below.refl _ _) | (with_reducible assumption) | (with_reducible refine Below.trans ?_ (Below.mono (by assumption) (by first | omega | (· simp) | (· (simp; omega))))) | (with_reducible refine Below.trans ?_ (Kp.below (by assumption) (by first | omega | (· simp) | (· (simp; omega))) (by first | omega | (· simp) | (· (simp; omega)))))))
                              case rest =>
                                obtain ⟨rfl, hb15⟩ := hcut
                                obtain ⟨W15, hWeq⟩ : ∃ W : World, W = wc := ⟨_, rfl⟩
                                subst hWeq
                                have hs15 := hb15.size
                                have B15_0 := (hb15.block g0 (by omega)).trans B14_0
                                clear B14_0
                                have B15_1 := (hb15.block g1 (by omega)).trans B14_1
                                clear B14_1
                                have B15_2 := (hb15.block g2 (by omega)).trans B14_2
                                clear B14_2
                                have B15_3 := (hb15.block g3 (by omega)).trans B14_3
                                clear B14_3
                                have B15_4 := (hb15.block g4 (by omega)).trans B14_4
                                clear B14_4
                                have B15_5 := (hb15.block g5 (by omega)).trans B14_5
                                clear B14_5
                                have RA15_0 : (E.agg [.lst 4 155 a0_0A a0_0c a0_0l]).Re W15 0 w.heap.size := RA14_0.below hb15 (by omega)
                                clear RA14_0
                                have RA15_1 : (E.agg [.int .i64 a1_0, .int .i64 a1_1, .str a1_2]).Re W15 0 w.heap.size := RA14_1.below hb15 (by omega)
                                clear RA14_1
                                have I15_5a := I14_5a.below hb15 (by omega)
                                clear I14_5a
                                have HOm15_8a := Lib.hid (HOm14_8a.out.below hb15 (by omega))
                                clear HOm14_8a
                                have HO15_18a := Lib.hid (HO14_18a.out.below hb15 (by omega))
                                clear HO14_18a
                                have hB15 : Below w.heap.size w W15 := hB14.trans (hb15.mono (by omega))
                                go_wp2
                                go_ret
                                exact ⟨rfl, hB15⟩
end Go.Proofs.Ytfnnbjkjfoiboaa
