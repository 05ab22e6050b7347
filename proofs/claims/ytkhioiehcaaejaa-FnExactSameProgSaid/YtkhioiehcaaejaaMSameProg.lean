/- The law FnExactSameProg, walked. -/
import Derived.Test.YtkhioiehcaaejaaUSameProg
import Derived.Deep.RegionHeld3
import Derived.Deep.DeepCutAuto
namespace Go.Proofs.Ytkhioiehcaaejaa
open Go.RowKit

set_option maxRecDepth 100000 in
set_option maxHeartbeats 8000000 in
theorem sameProg_law (w : World) {a0 : E} (ta0 : a0.Ty Try.prog 49) (ra0 : a0.In w) {a1 : E} (ta1 : a1.Ty Try.prog 49) (ra1 : a1.In w) :
    Calls Try.prog 5 #[a0.val, a1.val] w fun e w' => e = .returned (.bool true) ∧ Below w.heap.size w w' := by
  have TA0 := Lib.hid ta0
  obtain ⟨D0, HDa0⟩ : ∃ D : E, Hid (a0.d = D) := ⟨_, rfl⟩
  obtain ⟨a0_0A, a0_0c, a0_0l, a0_1A, a0_1c, a0_1l, rfl, ga0_0, ga0_1, -⟩ := shape_laws_Prog ta0
  have TA1 := Lib.hid ta1
  obtain ⟨D1, HDa1⟩ : ∃ D : E, Hid (a1.d = D) := ⟨_, rfl⟩
  obtain ⟨a1_0A, a1_0c, a1_0l, a1_1A, a1_1c, a1_1l, rfl, ga1_0, ga1_1, -⟩ := shape_laws_Prog ta1
  change Calls _ _ #[.agg #[.slice a0_0A a0_0l.length a0_0c, .slice a0_1A a0_1l.length a0_1c], .agg #[.slice a1_0A a1_0l.length a1_0c, .slice a1_1A a1_1l.length a1_1c]] w _
  go_enter Try.func5, Try.ntmps5
  go_upto_region 0 with fail
  go_cut [2, 3, 4] (fun s2 s3 s4 wx => ∃ (g0 : Nat) (g1 : Nat), s2 = .pointer (some ⟨g0, 0, none⟩) ∧ s3 = .pointer (some ⟨g1, 0, none⟩) ∧ s4 = .bool false ∧ wx.heap[g0]? = some (.cells #[.slice a0_0A a0_0l.length a0_0c, .slice a0_1A a0_1l.length a0_1c] 49 (0, 0)) ∧ w.heap.size ≤ g0 ∧ wx.heap[g1]? = some (.cells #[.slice a1_0A a1_0l.length a1_0c, .slice a1_1A a1_1l.length a1_1c] 49 (0, 0)) ∧ w.heap.size ≤ g1 ∧ Below w.heap.size w wx)
  case first =>
    go_wp2_with fail
    go_meet
    refine ⟨_, _, rfl, rfl, rfl, ?_, ?_, ?_, ?_, ?_⟩
    · (repeat (first | (with_reducible assumption) | (with_reducible refine hp_drew ?_) | (with_reducible refine hp_drewN ?_) | (refine hp_new ?_; first | rfl | (simp; done)) | (with_reducible refine hp_alloc ?_ ?_) | (refine hp_below (by with_reducible assumption) ?_ ?_) | omega | (· simp) | (· (simp; omega))))
    · first | omega | (simp; done) | (simp; omega)
    · (repeat (first | (with_reducible assumption) | (with_reducible refine hp_drew ?_) | (with_reducible refine hp_drewN ?_) | (refine hp_new ?_; first | rfl | (simp; done)) | (with_reducible refine hp_alloc ?_ ?_) | (refine hp_below (by with_reducible assumption) ?_ ?_) | omega | (· simp) | (· (simp; omega))))
    · first | omega | (simp; done) | (simp; omega)
    · exact (by repeat (first | (with_reducible refine Below.setCell ?_ (by first | omega | (· simp) | (· (simp; omega))) _) | (with_reducible refine Below.alloc ?_ (by first | omega | (· simp) | (· (simp; omega))) _) | (with_reducible refine Below.drew ?_) | (with_reducible refine bdrewN ?_ _) | (with_reducible exact Below.refl _ _) | (with_reducible assumption) | (with_reducible refine Below.trans ?_ (Below.mono (by assumption) (by first | omega | (· simp) | (· (simp; omega))))) | (with_reducible refine Below.trans ?_ (Kp.below (by assumption) (by first | omega | (· simp) | (· (simp; omega))) (by first | omega | (· simp) | (· (simp; omega)))))))
  case rest =>
    obtain ⟨g0, g1, rfl, rfl, rfl, B1_0, lb0, B1_1, lb1, hb1⟩ := hcut
    obtain ⟨W1, hWeq⟩ : ∃ W : World, W = wc := ⟨_, rfl⟩
    subst hWeq
    have hs1 := hb1.size
    have lu0 := blk_lt B1_0
    have lu1 := blk_lt B1_1
    have RA1_0 : (E.agg [.lst 6 135 a0_0A a0_0c a0_0l, .lst 3 138 a0_1A a0_1c a0_1l]).Re W1 0 w.heap.size := (show (E.agg [.lst 6 135 a0_0A a0_0c a0_0l, .lst 3 138 a0_1A a0_1c a0_1l]).Re w 0 w.heap.size from ra0).below hb1 (by omega)
    have RA1_1 : (E.agg [.lst 6 135 a1_0A a1_0c a1_0l, .lst 3 138 a1_1A a1_1c a1_1l]).Re W1 0 w.heap.size := (show (E.agg [.lst 6 135 a1_0A a1_0c a1_0l, .lst 3 138 a1_1A a1_1c a1_1l]).Re w 0 w.heap.size from ra1).below hb1 (by omega)
    have hB1 : Below w.heap.size w W1 := hb1
    go_upto_region 2 with fail
    go_cut [5] (fun s5 wx => ∃ (r1 : Int), s5 = .int .i64 r1 ∧ (r1 < 0 ∨ Hid (r1 + (E.agg [.lst 6 135 a0_0A a0_0c a0_0l, .lst 3 138 a0_1A a0_1c a0_1l]).sz = 1048576)) ∧ r1 ≤ 1048576 ∧ Below W1.heap.size W1 wx)
    case first =>
      have hwW := hB1.size
      have ltW0 : g0 < W1.heap.size := by omega
      clear hs1 lu0 lb0 lu1 lb1
      clear B1_1
      have z0_0_0 : W1.cell? ⟨g0, 0, none⟩ = some (.slice a0_0A a0_0l.length a0_0c) := cell_of B1_0 rfl
      have z0_0_1 : W1.cell? ⟨g0, 1, none⟩ = some (.slice a0_1A a0_1l.length a0_1c) := cell_of B1_0 rfl
      go_wp2_with fail
      go_at_call 18
      refine (szProg_all TA0.out _ _ (by have h : (E.agg [.lst 6 135 a0_0A a0_0c a0_0l, .lst 3 138 a0_1A a0_1c a0_1l]).In W1 := E.Re.inn RA1_0 (by omega); exact (by repeat (first | (with_reducible assumption) | (with_reducible refine E.In.drew ?_) | (with_reducible refine E.In.drewN ?_ _) | (with_reducible refine E.In.alloc ?_ _) | (refine E.In.below ?_ (by with_reducible assumption) ?_) | omega | (· simp) | (· (simp; omega))))) (by omega) (by omega)).mono ?_; rintro e w1 ⟨r1, rfl, hr1, hl1, hb1⟩
      go_wp2_with fail
      go_meet
      refine ⟨r1, rfl, ?_, ?_, ?_⟩
      · exact hr1
      · exact hl1
      · exact (by repeat (first | (with_reducible refine Below.setCell ?_ (by first | omega | (· simp) | (· (simp; omega))) _) | (with_reducible refine Below.alloc ?_ (by first | omega | (· simp) | (· (simp; omega))) _) | (with_reducible refine Below.drew ?_) | (with_reducible refine bdrewN ?_ _) | (with_reducible exact Below.refl _ _) | (with_reducible assumption) | (with_reducible refine Below.trans ?_ (Below.mono (by assumption) (by first | omega | (· simp) | (· (simp; omega))))) | (with_reducible refine Below.trans ?_ (Kp.below (by assumption) (by first | omega | (· simp) | (· (simp; omega))) (by first | omega | (· simp) | (· (simp; omega)))))))
    case rest =>
      obtain ⟨r1, rfl, hr1, hl1, hb2⟩ := hcut
      obtain ⟨W2, hWeq⟩ : ∃ W : World, W = wc := ⟨_, rfl⟩
      subst hWeq
      have hs2 := hb2.size
      have B2_0 := (hb2.block g0 (by omega)).trans B1_0
      clear B1_0
      have B2_1 := (hb2.block g1 (by omega)).trans B1_1
      clear B1_1
      have RA2_0 : (E.agg [.lst 6 135 a0_0A a0_0c a0_0l, .lst 3 138 a0_1A a0_1c a0_1l]).Re W2 0 w.heap.size := RA1_0.below hb2 (by omega)
      clear RA1_0
      have RA2_1 : (E.agg [.lst 6 135 a1_0A a1_0c a1_0l, .lst 3 138 a1_1A a1_1c a1_1l]).Re W2 0 w.heap.size := RA1_1.below hb2 (by omega)
      clear RA1_1
      have hB2 : Below w.heap.size w W2 := hB1.trans (hb2.mono (by omega))
      by_cases hn1 : r1 < 0
      · go_wp2
        go_ret
        exact ⟨rfl, hB2⟩
      have HR1 := hr1.resolve_left hn1
      clear hr1
      have hz1 : (E.agg [.lst 6 135 a0_0A a0_0c a0_0l, .lst 3 138 a0_1A a0_1c a0_1l]).sz ≤ 1048576 := by have := HR1.out; omega
      have hD0 : D0.sz ≤ 1048576 := by rw [← HDa0.out, E.sz_d]; exact hz1
      go_upto_region 5 with fail
      go_cut [5] (fun s5 wx => ∃ (r2 : Int), s5 = .int .i64 r2 ∧ (r2 < 0 ∨ Hid (r2 + (E.agg [.lst 6 135 a1_0A a1_0c a1_0l, .lst 3 138 a1_1A a1_1c a1_1l]).sz = r1)) ∧ r2 ≤ r1 ∧ Below W2.heap.size W2 wx)
      case first =>
        have hwW := hB2.size
        have ltW1 : g1 < W2.heap.size := by omega
        clear hs1 lu0 lb0 lu1 lb1 hs2
        clear B2_0
        have z0_1_0 : W2.cell? ⟨g1, 0, none⟩ = some (.slice a1_0A a1_0l.length a1_0c) := cell_of B2_1 rfl
        have z0_1_1 : W2.cell? ⟨g1, 1, none⟩ = some (.slice a1_1A a1_1l.length a1_1c) := cell_of B2_1 rfl
        go_wp2_with fail
        go_at_call 18
        refine (szProg_all TA1.out _ _ (by have h : (E.agg [.lst 6 135 a1_0A a1_0c a1_0l, .lst 3 138 a1_1A a1_1c a1_1l]).In W2 := E.Re.inn RA2_1 (by omega); exact (by repeat (first | (with_reducible assumption) | (with_reducible refine E.In.drew ?_) | (with_reducible refine E.In.drewN ?_ _) | (with_reducible refine E.In.alloc ?_ _) | (refine E.In.below ?_ (by with_reducible assumption) ?_) | omega | (· simp) | (· (simp; omega))))) (by omega) (by omega)).mono ?_; rintro e w2 ⟨r2, rfl, hr2, hl2, hb2⟩
        go_wp2_with fail
        go_meet
        refine ⟨r2, rfl, ?_, ?_, ?_⟩
        · exact hr2
        · exact hl2
        · exact (by repeat (first | (with_reducible refine Below.setCell ?_ (by first | omega | (· simp) | (· (simp; omega))) _) | (with_reducible refine Below.alloc ?_ (by first | omega | (· simp) | (· (simp; omega))) _) | (with_reducible refine Below.drew ?_) | (with_reducible refine bdrewN ?_ _) | (with_reducible exact Below.refl _ _) | (with_reducible assumption) | (with_reducible refine Below.trans ?_ (Below.mono (by assumption) (by first | omega | (· simp) | (· (simp; omega))))) | (with_reducible refine Below.trans ?_ (Kp.below (by assumption) (by first | omega | (· simp) | (· (simp; omega))) (by first | omega | (· simp) | (· (simp; omega)))))))
      case rest =>
        obtain ⟨r2, rfl, hr2, hl2, hb3⟩ := hcut
        obtain ⟨W3, hWeq⟩ : ∃ W : World, W = wc := ⟨_, rfl⟩
        subst hWeq
        have hs3 := hb3.size
        have B3_0 := (hb3.block g0 (by omega)).trans B2_0
        clear B2_0
        have B3_1 := (hb3.block g1 (by omega)).trans B2_1
        clear B2_1
        have RA3_0 : (E.agg [.lst 6 135 a0_0A a0_0c a0_0l, .lst 3 138 a0_1A a0_1c a0_1l]).Re W3 0 w.heap.size := RA2_0.below hb3 (by omega)
        clear RA2_0
        have RA3_1 : (E.agg [.lst 6 135 a1_0A a1_0c a1_0l, .lst 3 138 a1_1A a1_1c a1_1l]).Re W3 0 w.heap.size := RA2_1.below hb3 (by omega)
        clear RA2_1
        have hB3 : Below w.heap.size w W3 := hB2.trans (hb3.mono (by omega))
        by_cases hn2 : r2 < 0
        · go_wp2
          go_ret
          exact ⟨rfl, hB3⟩
        have HR2 := hr2.resolve_left hn2
        clear hr2
        have hz2 : (E.agg [.lst 6 135 a1_0A a1_0c a1_0l, .lst 3 138 a1_1A a1_1c a1_1l]).sz ≤ 1048576 := by have := HR2.out; omega
        have hD1 : D1.sz ≤ 1048576 := by rw [← HDa1.out, E.sz_d]; exact hz2
        go_upto_region 8 with fail
        go_cut [6] (fun s6 wx => s6 = .bool (sameProgD D0 D1) ∧ Below W3.heap.size W3 wx)
        case first =>
          have hwW := hB3.size
          have ltW0 : g0 < W3.heap.size := by omega
          have ltW1 : g1 < W3.heap.size := by omega
          clear hs1 lu0 lb0 lu1 lb1 hs2 hs3
          have z0_0_0 : W3.cell? ⟨g0, 0, none⟩ = some (.slice a0_0A a0_0l.length a0_0c) := cell_of B3_0 rfl
          have z0_0_1 : W3.cell? ⟨g0, 1, none⟩ = some (.slice a0_1A a0_1l.length a0_1c) := cell_of B3_0 rfl
          have z0_1_0 : W3.cell? ⟨g1, 0, none⟩ = some (.slice a1_0A a1_0l.length a1_0c) := cell_of B3_1 rfl
          have z0_1_1 : W3.cell? ⟨g1, 1, none⟩ = some (.slice a1_1A a1_1l.length a1_1c) := cell_of B3_1 rfl
          go_region_held3 (fun w' => w'.cell? ⟨g0, 0, none⟩ = some (.slice a0_0A a0_0l.length a0_0c) ∧ w'.cell? ⟨g0, 1, none⟩ = some (.slice a0_1A a0_1l.length a0_1c) ∧ w'.cell? ⟨g1, 0, none⟩ = some (.slice a1_0A a1_0l.length a1_0c) ∧ w'.cell? ⟨g1, 1, none⟩ = some (.slice a1_1A a1_1l.length a1_1c))
            (first | exact ⟨z0_0_0, z0_0_1, z0_1_0, z0_1_1⟩ | (refine ⟨?_, ?_, ?_, ?_⟩ <;> (repeat (first | (with_reducible assumption) | (with_reducible refine cell_set_ne ?_ ?_) | (with_reducible refine cell_drew ?_) | (with_reducible refine cell_drewN ?_) | (with_reducible refine cell_alloc ?_ ?_) | omega | (simp; done) | (simp; omega)))) | skip)
            ((first
              | (go_at_call 20; (with_reducible change Calls _ _ #[.agg #[.slice a0_0A a0_0l.length a0_0c, .slice a0_1A a0_1l.length a0_1c]] _ _); refine (toProg_all TA0.out _ (by have h : (E.agg [.lst 6 135 a0_0A a0_0c a0_0l, .lst 3 138 a0_1A a0_1c a0_1l]).In W3 := E.Re.inn RA3_0 (by omega); exact (by repeat (first | (with_reducible assumption) | (with_reducible refine E.In.drew ?_) | (with_reducible refine E.In.drewN ?_ _) | (with_reducible refine E.In.alloc ?_ _) | (refine E.In.below ?_ (by with_reducible assumption) ?_) | omega | (· simp) | (· (simp; omega))))) (by omega)).mono ?_; rintro e3 w3 ⟨x3, e3h, HD3, ht3, ho3, hn3, hb3⟩; have HT3 := Lib.hid ht3; have HD3 := Lib.hid (HD3.out.trans HDa0.out); obtain ⟨x3_0A, x3_0c, x3_0l, x3_1A, x3_1c, x3_1l, rfl, -, -, -⟩ := shape_impl_Prog ht3; obtain rfl : e3 = .returned (.agg #[.slice x3_0A x3_0l.length x3_0c, .slice x3_1A x3_1l.length x3_1c]) := e3h; have HO3 := Lib.hid ho3; have HN3 := Lib.hid hn3; clear ht3 ho3 hn3; have hz3 := hb3.size; (try simp only [World.size_alloc, World.size_drew, World.heap_drewN, World.size_setCell] at hz3); have z3_0_0 : w3.cell? ⟨g0, 0, none⟩ = some (.slice a0_0A a0_0l.length a0_0c) := cell_of (by exact (by repeat (first | (with_reducible assumption) | (with_reducible refine hp_drew ?_) | (with_reducible refine hp_drewN ?_) | (with_reducible refine hp_alloc ?_ ?_) | (refine hp_below (by with_reducible assumption) ?_ ?_) | omega | (· simp) | (· (simp; omega)))) : w3.heap[g0]? = some (.cells #[.slice a0_0A a0_0l.length a0_0c, .slice a0_1A a0_1l.length a0_1c] 49 (0, 0))) rfl; have z3_0_1 : w3.cell? ⟨g0, 1, none⟩ = some (.slice a0_1A a0_1l.length a0_1c) := cell_of (by exact (by repeat (first | (with_reducible assumption) | (with_reducible refine hp_drew ?_) | (with_reducible refine hp_drewN ?_) | (with_reducible refine hp_alloc ?_ ?_) | (refine hp_below (by with_reducible assumption) ?_ ?_) | omega | (· simp) | (· (simp; omega)))) : w3.heap[g0]? = some (.cells #[.slice a0_0A a0_0l.length a0_0c, .slice a0_1A a0_1l.length a0_1c] 49 (0, 0))) rfl; have z3_1_0 : w3.cell? ⟨g1, 0, none⟩ = some (.slice a1_0A a1_0l.length a1_0c) := cell_of (by exact (by repeat (first | (with_reducible assumption) | (with_reducible refine hp_drew ?_) | (with_reducible refine hp_drewN ?_) | (with_reducible refine hp_alloc ?_ ?_) | (refine hp_below (by with_reducible assumption) ?_ ?_) | omega | (· simp) | (· (simp; omega)))) : w3.heap[g1]? = some (.cells #[.slice a1_0A a1_0l.length a1_0c, .slice a1_1A a1_1l.length a1_1c] 49 (0, 0))) rfl; have z3_1_1 : w3.cell? ⟨g1, 1, none⟩ = some (.slice a1_1A a1_1l.length a1_1c) := cell_of (by exact (by repeat (first | (with_reducible assumption) | (with_reducible refine hp_drew ?_) | (with_reducible refine hp_drewN ?_) | (with_reducible refine hp_alloc ?_ ?_) | (refine hp_below (by with_reducible assumption) ?_ ?_) | omega | (· simp) | (· (simp; omega)))) : w3.heap[g1]? = some (.cells #[.slice a1_0A a1_0l.length a1_0c, .slice a1_1A a1_1l.length a1_1c] 49 (0, 0))) rfl)
              | (go_at_call 20; (with_reducible change Calls _ _ #[.agg #[.slice a1_0A a1_0l.length a1_0c, .slice a1_1A a1_1l.length a1_1c]] _ _); refine (toProg_all TA1.out _ (by have h : (E.agg [.lst 6 135 a1_0A a1_0c a1_0l, .lst 3 138 a1_1A a1_1c a1_1l]).In W3 := E.Re.inn RA3_1 (by omega); exact (by repeat (first | (with_reducible assumption) | (with_reducible refine E.In.drew ?_) | (with_reducible refine E.In.drewN ?_ _) | (with_reducible refine E.In.alloc ?_ _) | (refine E.In.below ?_ (by with_reducible assumption) ?_) | omega | (· simp) | (· (simp; omega))))) (by omega)).mono ?_; rintro e4 w4 ⟨x4, e4h, HD4, ht4, ho4, hn4, hb4⟩; have HT4 := Lib.hid ht4; have HD4 := Lib.hid (HD4.out.trans HDa1.out); obtain ⟨x4_0A, x4_0c, x4_0l, x4_1A, x4_1c, x4_1l, rfl, -, -, -⟩ := shape_impl_Prog ht4; obtain rfl : e4 = .returned (.agg #[.slice x4_0A x4_0l.length x4_0c, .slice x4_1A x4_1l.length x4_1c]) := e4h; have HO4 := Lib.hid ho4; have HN4 := Lib.hid hn4; clear ht4 ho4 hn4; have hz4 := hb4.size; (try simp only [World.size_alloc, World.size_drew, World.heap_drewN, World.size_setCell] at hz4); have z4_0_0 : w4.cell? ⟨g0, 0, none⟩ = some (.slice a0_0A a0_0l.length a0_0c) := cell_of (by exact (by repeat (first | (with_reducible assumption) | (with_reducible refine hp_drew ?_) | (with_reducible refine hp_drewN ?_) | (with_reducible refine hp_alloc ?_ ?_) | (refine hp_below (by with_reducible assumption) ?_ ?_) | omega | (· simp) | (· (simp; omega)))) : w4.heap[g0]? = some (.cells #[.slice a0_0A a0_0l.length a0_0c, .slice a0_1A a0_1l.length a0_1c] 49 (0, 0))) rfl; have z4_0_1 : w4.cell? ⟨g0, 1, none⟩ = some (.slice a0_1A a0_1l.length a0_1c) := cell_of (by exact (by repeat (first | (with_reducible assumption) | (with_reducible refine hp_drew ?_) | (with_reducible refine hp_drewN ?_) | (with_reducible refine hp_alloc ?_ ?_) | (refine hp_below (by with_reducible assumption) ?_ ?_) | omega | (· simp) | (· (simp; omega)))) : w4.heap[g0]? = some (.cells #[.slice a0_0A a0_0l.length a0_0c, .slice a0_1A a0_1l.length a0_1c] 49 (0, 0))) rfl; have z4_1_0 : w4.cell? ⟨g1, 0, none⟩ = some (.slice a1_0A a1_0l.length a1_0c) := cell_of (by exact (by repeat (first | (with_reducible assumption) | (with_reducible refine hp_drew ?_) | (with_reducible refine hp_drewN ?_) | (with_reducible refine hp_alloc ?_ ?_) | (refine hp_below (by with_reducible assumption) ?_ ?_) | omega | (· simp) | (· (simp; omega)))) : w4.heap[g1]? = some (.cells #[.slice a1_0A a1_0l.length a1_0c, .slice a1_1A a1_1l.length a1_1c] 49 (0, 0))) rfl; have z4_1_1 : w4.cell? ⟨g1, 1, none⟩ = some (.slice a1_1A a1_1l.length a1_1c) := cell_of (by exact (by repeat (first | (with_reducible assumption) | (with_reducible refine hp_drew ?_) | (with_reducible refine hp_drewN ?_) | (with_reducible refine hp_alloc ?_ ?_) | (refine hp_below (by with_reducible assumption) ?_ ?_) | omega | (· simp) | (· (simp; omega)))) : w4.heap[g1]? = some (.cells #[.slice a1_0A a1_0l.length a1_0c, .slice a1_1A a1_1l.length a1_1c] 49 (0, 0))) rfl)
              | (go_at_call 19; refine (specSameProg_u HT3.out HT4.out _ (by have h := HO3.out.inn; exact (by repeat (first | (with_reducible assumption) | (with_reducible refine E.In.drew ?_) | (with_reducible refine E.In.drewN ?_ _) | (with_reducible refine E.In.alloc ?_ _) | (refine E.In.below ?_ (by with_reducible assumption) ?_) | omega | (· simp) | (· (simp; omega))))) (by have h := HO4.out.inn; exact (by repeat (first | (with_reducible assumption) | (with_reducible refine E.In.drew ?_) | (with_reducible refine E.In.drewN ?_ _) | (with_reducible refine E.In.alloc ?_ _) | (refine E.In.below ?_ (by with_reducible assumption) ?_) | omega | (· simp) | (· (simp; omega))))) (sz_le HD3 hD0) (sz_le HD4 hD1)).mono ?_; rintro e5 w5 ⟨e5h, hb5⟩; rw [HD3.out] at e5h; rw [HD4.out] at e5h; obtain rfl : e5 = .returned (.bool (sameProgD D0 D1)) := e5h; have hz5 := hb5.size; (try simp only [World.size_alloc, World.size_drew, World.heap_drewN, World.size_setCell] at hz5); have z5_0_0 : w5.cell? ⟨g0, 0, none⟩ = some (.slice a0_0A a0_0l.length a0_0c) := cell_of (by exact (by repeat (first | (with_reducible assumption) | (with_reducible refine hp_drew ?_) | (with_reducible refine hp_drewN ?_) | (with_reducible refine hp_alloc ?_ ?_) | (refine hp_below (by with_reducible assumption) ?_ ?_) | omega | (· simp) | (· (simp; omega)))) : w5.heap[g0]? = some (.cells #[.slice a0_0A a0_0l.length a0_0c, .slice a0_1A a0_1l.length a0_1c] 49 (0, 0))) rfl; have z5_0_1 : w5.cell? ⟨g0, 1, none⟩ = some (.slice a0_1A a0_1l.length a0_1c) := cell_of (by exact (by repeat (first | (with_reducible assumption) | (with_reducible refine hp_drew ?_) | (with_reducible refine hp_drewN ?_) | (with_reducible refine hp_alloc ?_ ?_) | (refine hp_below (by with_reducible assumption) ?_ ?_) | omega | (· simp) | (· (simp; omega)))) : w5.heap[g0]? = some (.cells #[.slice a0_0A a0_0l.length a0_0c, .slice a0_1A a0_1l.length a0_1c] 49 (0, 0))) rfl; have z5_1_0 : w5.cell? ⟨g1, 0, none⟩ = some (.slice a1_0A a1_0l.length a1_0c) := cell_of (by exact (by repeat (first | (with_reducible assumption) | (with_reducible refine hp_drew ?_) | (with_reducible refine hp_drewN ?_) | (with_reducible refine hp_alloc ?_ ?_) | (refine hp_below (by with_reducible assumption) ?_ ?_) | omega | (· simp) | (· (simp; omega)))) : w5.heap[g1]? = some (.cells #[.slice a1_0A a1_0l.length a1_0c, .slice a1_1A a1_1l.length a1_1c] 49 (0, 0))) rfl; have z5_1_1 : w5.cell? ⟨g1, 1, none⟩ = some (.slice a1_1A a1_1l.length a1_1c) := cell_of (by exact (by repeat (first | (with_reducible assumption) | (with_reducible refine hp_drew ?_) | (with_reducible refine hp_drewN ?_) | (with_reducible refine hp_alloc ?_ ?_) | (refine hp_below (by with_reducible assumption) ?_ ?_) | omega | (· simp) | (· (simp; omega)))) : w5.heap[g1]? = some (.cells #[.slice a1_0A a1_0l.length a1_0c, .slice a1_1A a1_1l.length a1_1c] 49 (0, 0))) rfl)))
          all_goals
            go_wp2_with fail
            go_meet
            refine ⟨rfl, ?_⟩
            · exact (by repeat (first | (with_reducible refine Below.setCell ?_ (by first | omega | (· simp) | (· (simp; omega))) _) | (with_reducible refine Below.alloc ?_ (by first | omega | (· simp) | (· (simp; omega))) _) | (with_reducible refine Below.drew ?_) | (with_reducible refine bdrewN ?_ _) | (with_reducible exact Below.refl _ _) | (with_reducible assumption) | (with_reducible refine Below.trans ?_ (Below.mono (by assumption) (by first | omega | (· simp) | (· (simp; omega))))) | (with_reducible refine Below.trans ?_ (Kp.below (by assumption) (by first | omega | (· simp) | (· (simp; omega))) (by first | omega | (· simp) | (· (simp; omega)))))))
        case rest =>
          obtain ⟨rfl, hb4⟩ := hcut
          obtain ⟨W4, hWeq⟩ : ∃ W : World, W = wc := ⟨_, rfl⟩
          subst hWeq
          have hs4 := hb4.size
          have B4_0 := (hb4.block g0 (by omega)).trans B3_0
          clear B3_0
          have B4_1 := (hb4.block g1 (by omega)).trans B3_1
          clear B3_1
          have RA4_0 : (E.agg [.lst 6 135 a0_0A a0_0c a0_0l, .lst 3 138 a0_1A a0_1c a0_1l]).Re W4 0 w.heap.size := RA3_0.below hb4 (by omega)
          clear RA3_0
          have RA4_1 : (E.agg [.lst 6 135 a1_0A a1_0c a1_0l, .lst 3 138 a1_1A a1_1c a1_1l]).Re W4 0 w.heap.size := RA3_1.below hb4 (by omega)
          clear RA3_1
          have hB4 : Below w.heap.size w W4 := hB3.trans (hb4.mono (by omega))
          go_upto_region 9 with fail
          go_cut [7] (fun s7 wx => ∃ (g2 : Nat) (x6_0A : Option Addr) (x6_0c : Nat) (x6_0l : List E) (x6_1A : Option Addr) (x6_1c : Nat) (x6_1l : List E), s7 = .pointer (some ⟨g2, 0, none⟩) ∧ wx.heap[g2]? = some (.cells #[.slice x6_0A x6_0l.length x6_0c, .slice x6_1A x6_1l.length x6_1c] 55 (0, 0)) ∧ W4.heap.size ≤ g2 ∧ g2 ∉ (E.agg [.lst 6 93 x6_0A x6_0c x6_0l, .lst 3 97 x6_1A x6_1c x6_1l]).fp ∧ Hid ((E.agg [.lst 6 93 x6_0A x6_0c x6_0l, .lst 3 97 x6_1A x6_1c x6_1l]).Ty Try.prog 55) ∧ Hid ((E.agg [.lst 6 93 x6_0A x6_0c x6_0l, .lst 3 97 x6_1A x6_1c x6_1l]).d = D0) ∧ Hid ((E.agg [.lst 6 93 x6_0A x6_0c x6_0l, .lst 3 97 x6_1A x6_1c x6_1l]).Ho wx W4.heap.size wx.heap.size) ∧ Hid (E.agg [.lst 6 93 x6_0A x6_0c x6_0l, .lst 3 97 x6_1A x6_1c x6_1l]).fp.Nodup ∧ Below W4.heap.size W4 wx)
          case first =>
            have hwW := hB4.size
            have ltW0 : g0 < W4.heap.size := by omega
            clear hs1 lu0 lb0 lu1 lb1 hs2 hs3 hs4
            clear B4_1
            have z0_0_0 : W4.cell? ⟨g0, 0, none⟩ = some (.slice a0_0A a0_0l.length a0_0c) := cell_of B4_0 rfl
            have z0_0_1 : W4.cell? ⟨g0, 1, none⟩ = some (.slice a0_1A a0_1l.length a0_1c) := cell_of B4_0 rfl
            go_wp2_with fail
            go_at_call 20
            (with_reducible change Calls _ _ #[.agg #[.slice a0_0A a0_0l.length a0_0c, .slice a0_1A a0_1l.length a0_1c]] _ _); refine (toProg_all TA0.out _ (by have h : (E.agg [.lst 6 135 a0_0A a0_0c a0_0l, .lst 3 138 a0_1A a0_1c a0_1l]).In W4 := E.Re.inn RA4_0 (by omega); exact (by repeat (first | (with_reducible assumption) | (with_reducible refine E.In.drew ?_) | (with_reducible refine E.In.drewN ?_ _) | (with_reducible refine E.In.alloc ?_ _) | (refine E.In.below ?_ (by with_reducible assumption) ?_) | omega | (· simp) | (· (simp; omega))))) (by omega)).mono ?_; rintro e6 w6 ⟨x6, e6h, HD6, ht6, ho6, hn6, hb6⟩; have HT6 := Lib.hid ht6; have HD6 := Lib.hid (HD6.out.trans HDa0.out); obtain ⟨x6_0A, x6_0c, x6_0l, x6_1A, x6_1c, x6_1l, rfl, -, -, -⟩ := shape_impl_Prog ht6; obtain rfl : e6 = .returned (.agg #[.slice x6_0A x6_0l.length x6_0c, .slice x6_1A x6_1l.length x6_1c]) := e6h; have HO6 := Lib.hid ho6; have HN6 := Lib.hid hn6; clear ht6 ho6 hn6; have hz6 := hb6.size; (try simp only [World.size_alloc, World.size_drew, World.heap_drewN, World.size_setCell] at hz6)
            go_wp2_with fail
            go_meet
            refine ⟨_, x6_0A, x6_0c, x6_0l, x6_1A, x6_1c, x6_1l, rfl, ?_, ?_, ?_, ?_, ?_, ?_, ?_, ?_⟩
            · (repeat (first | (with_reducible assumption) | (with_reducible refine hp_drew ?_) | (with_reducible refine hp_drewN ?_) | (refine hp_new ?_; first | rfl | (simp; done)) | (with_reducible refine hp_alloc ?_ ?_) | (refine hp_below (by with_reducible assumption) ?_ ?_) | omega | (· simp) | (· (simp; omega))))
            · first | omega | (simp; done) | (simp; omega)
            · (intro hm; have h := HO6.out.lt _ hm; (try simp only [World.size_alloc, World.size_drew, World.heap_drewN, World.size_setCell] at h); omega)
            · exact HT6
            · exact HD6
            · refine E.Ho.fin HO6.out (fun hh => ?_) ?_ ?_
              · (repeat (first | (with_reducible assumption) | (with_reducible refine E.Ho.drew ?_) | (with_reducible refine E.Ho.drewN ?_ _) | (with_reducible refine E.Ho.alloc ?_ ?_ _) | (with_reducible refine E.Ho.setAny ?_ ?_ _) | (refine E.Ho.below ?_ (by with_reducible assumption) ?_) | (first | omega | (dsimp only; omega) | (simp only [World.size_alloc, World.size_drew, World.heap_drewN, World.size_setCell]; omega) | (simp; done) | (simp; omega))))
              · (first | omega | (dsimp only; omega) | (simp only [World.size_alloc, World.size_drew, World.heap_drewN, World.size_setCell]; omega) | (simp; done) | (simp; omega))
              · (first | omega | (dsimp only; omega) | (simp only [World.size_alloc, World.size_drew, World.heap_drewN, World.size_setCell]; omega) | (simp; done) | (simp; omega))
            · exact HN6
            · exact (by repeat (first | (with_reducible refine Below.setCell ?_ (by first | omega | (· simp) | (· (simp; omega))) _) | (with_reducible refine Below.alloc ?_ (by first | omega | (· simp) | (· (simp; omega))) _) | (with_reducible refine Below.drew ?_) | (with_reducible refine bdrewN ?_ _) | (with_reducible exact Below.refl _ _) | (with_reducible assumption) | (with_reducible refine Below.trans ?_ (Below.mono (by assumption) (by first | omega | (· simp) | (· (simp; omega))))) | (with_reducible refine Below.trans ?_ (Kp.below (by assumption) (by first | omega | (· simp) | (· (simp; omega))) (by first | omega | (· simp) | (· (simp; omega)))))))
          case rest =>
            obtain ⟨g2, x6_0A, x6_0c, x6_0l, x6_1A, x6_1c, x6_1l, rfl, B5_2, lb2, nb2_6, HT6, HD6, HO5_6, HN6, hb5⟩ := hcut
            obtain ⟨W5, hWeq⟩ : ∃ W : World, W = wc := ⟨_, rfl⟩
            subst hWeq
            have hs5 := hb5.size
            have lu2 := blk_lt B5_2
            have B5_0 := (hb5.block g0 (by omega)).trans B4_0
            clear B4_0
            have B5_1 := (hb5.block g1 (by omega)).trans B4_1
            clear B4_1
            have RA5_0 : (E.agg [.lst 6 135 a0_0A a0_0c a0_0l, .lst 3 138 a0_1A a0_1c a0_1l]).Re W5 0 w.heap.size := RA4_0.below hb5 (by omega)
            clear RA4_0
            have RA5_1 : (E.agg [.lst 6 135 a1_0A a1_0c a1_0l, .lst 3 138 a1_1A a1_1c a1_1l]).Re W5 0 w.heap.size := RA4_1.below hb5 (by omega)
            clear RA4_1
            have hB5 : Below w.heap.size w W5 := hB4.trans (hb5.mono (by omega))
            go_upto_region 10 with fail
            go_cut [8] (fun s8 wx => ∃ (g3 : Nat) (x7_0A : Option Addr) (x7_0c : Nat) (x7_0l : List E) (x7_1A : Option Addr) (x7_1c : Nat) (x7_1l : List E), s8 = .pointer (some ⟨g3, 0, none⟩) ∧ wx.heap[g3]? = some (.cells #[.slice x7_0A x7_0l.length x7_0c, .slice x7_1A x7_1l.length x7_1c] 55 (0, 0)) ∧ W5.heap.size ≤ g3 ∧ g3 ∉ (E.agg [.lst 6 93 x7_0A x7_0c x7_0l, .lst 3 97 x7_1A x7_1c x7_1l]).fp ∧ Hid ((E.agg [.lst 6 93 x7_0A x7_0c x7_0l, .lst 3 97 x7_1A x7_1c x7_1l]).Ty Try.prog 55) ∧ Hid ((E.agg [.lst 6 93 x7_0A x7_0c x7_0l, .lst 3 97 x7_1A x7_1c x7_1l]).d = D1) ∧ Hid ((E.agg [.lst 6 93 x7_0A x7_0c x7_0l, .lst 3 97 x7_1A x7_1c x7_1l]).Ho wx W5.heap.size wx.heap.size) ∧ Hid (E.agg [.lst 6 93 x7_0A x7_0c x7_0l, .lst 3 97 x7_1A x7_1c x7_1l]).fp.Nodup ∧ Below W5.heap.size W5 wx)
            case first =>
              have hwW := hB5.size
              have ltW1 : g1 < W5.heap.size := by omega
              clear hs1 lu0 lb0 lu1 lb1 hs2 hs3 hs4 hs5 lu2 lb2 nb2_6
              clear B5_0 B5_2 HO5_6
              have z0_1_0 : W5.cell? ⟨g1, 0, none⟩ = some (.slice a1_0A a1_0l.length a1_0c) := cell_of B5_1 rfl
              have z0_1_1 : W5.cell? ⟨g1, 1, none⟩ = some (.slice a1_1A a1_1l.length a1_1c) := cell_of B5_1 rfl
              go_wp2_with fail
              go_at_call 20
              (with_reducible change Calls _ _ #[.agg #[.slice a1_0A a1_0l.length a1_0c, .slice a1_1A a1_1l.length a1_1c]] _ _); refine (toProg_all TA1.out _ (by have h : (E.agg [.lst 6 135 a1_0A a1_0c a1_0l, .lst 3 138 a1_1A a1_1c a1_1l]).In W5 := E.Re.inn RA5_1 (by omega); exact (by repeat (first | (with_reducible assumption) | (with_reducible refine E.In.drew ?_) | (with_reducible refine E.In.drewN ?_ _) | (with_reducible refine E.In.alloc ?_ _) | (refine E.In.below ?_ (by with_reducible assumption) ?_) | omega | (· simp) | (· (simp; omega))))) (by omega)).mono ?_; rintro e7 w7 ⟨x7, e7h, HD7, ht7, ho7, hn7, hb7⟩; have HT7 := Lib.hid ht7; have HD7 := Lib.hid (HD7.out.trans HDa1.out); obtain ⟨x7_0A, x7_0c, x7_0l, x7_1A, x7_1c, x7_1l, rfl, -, -, -⟩ := shape_impl_Prog ht7; obtain rfl : e7 = .returned (.agg #[.slice x7_0A x7_0l.length x7_0c, .slice x7_1A x7_1l.length x7_1c]) := e7h; have HO7 := Lib.hid ho7; have HN7 := Lib.hid hn7; clear ht7 ho7 hn7; have hz7 := hb7.size; (try simp only [World.size_alloc, World.size_drew, World.heap_drewN, World.size_setCell] at hz7)
              go_wp2_with fail
              go_meet
              refine ⟨_, x7_0A, x7_0c, x7_0l, x7_1A, x7_1c, x7_1l, rfl, ?_, ?_, ?_, ?_, ?_, ?_, ?_, ?_⟩
              · (repeat (first | (with_reducible assumption) | (with_reducible refine hp_drew ?_) | (with_reducible refine hp_drewN ?_) | (refine hp_new ?_; first | rfl | (simp; done)) | (with_reducible refine hp_alloc ?_ ?_) | (refine hp_below (by with_reducible assumption) ?_ ?_) | omega | (· simp) | (· (simp; omega))))
              · first | omega | (simp; done) | (simp; omega)
              · (intro hm; have h := HO7.out.lt _ hm; (try simp only [World.size_alloc, World.size_drew, World.heap_drewN, World.size_setCell] at h); omega)
              · exact HT7
              · exact HD7
              · refine E.Ho.fin HO7.out (fun hh => ?_) ?_ ?_
                · (repeat (first | (with_reducible assumption) | (with_reducible refine E.Ho.drew ?_) | (with_reducible refine E.Ho.drewN ?_ _) | (with_reducible refine E.Ho.alloc ?_ ?_ _) | (with_reducible refine E.Ho.setAny ?_ ?_ _) | (refine E.Ho.below ?_ (by with_reducible assumption) ?_) | (first | omega | (dsimp only; omega) | (simp only [World.size_alloc, World.size_drew, World.heap_drewN, World.size_setCell]; omega) | (simp; done) | (simp; omega))))
                · (first | omega | (dsimp only; omega) | (simp only [World.size_alloc, World.size_drew, World.heap_drewN, World.size_setCell]; omega) | (simp; done) | (simp; omega))
                · (first | omega | (dsimp only; omega) | (simp only [World.size_alloc, World.size_drew, World.heap_drewN, World.size_setCell]; omega) | (simp; done) | (simp; omega))
              · exact HN7
              · exact (by repeat (first | (with_reducible refine Below.setCell ?_ (by first | omega | (· simp) | (· (simp; omega))) _) | (with_reducible refine Below.alloc ?_ (by first | omega | (· simp) | (· (simp; omega))) _) | (with_reducible refine Below.drew ?_) | (with_reducible refine bdrewN ?_ _) | (with_reducible exact Below.refl _ _) | (with_reducible assumption) | (with_reducible refine Below.trans ?_ (Below.mono (by assumption) (by first | omega | (· simp) | (· (simp; omega))))) | (with_reducible refine Below.trans ?_ (Kp.below (by assumption) (by first | omega | (· simp) | (· (simp; omega))) (by first | omega | (· simp) | (· (simp; omega)))))))
            case rest =>
              obtain ⟨g3, x7_0A, x7_0c, x7_0l, x7_1A, x7_1c, x7_1l, rfl, B6_3, lb3, nb3_7, HT7, HD7, HO6_7, HN7, hb6⟩ := hcut
              obtain ⟨W6, hWeq⟩ : ∃ W : World, W = wc := ⟨_, rfl⟩
              subst hWeq
              have hs6 := hb6.size
              have lu3 := blk_lt B6_3
              have B6_0 := (hb6.block g0 (by omega)).trans B5_0
              clear B5_0
              have B6_1 := (hb6.block g1 (by omega)).trans B5_1
              clear B5_1
              have B6_2 := (hb6.block g2 (by omega)).trans B5_2
              clear B5_2
              have RA6_0 : (E.agg [.lst 6 135 a0_0A a0_0c a0_0l, .lst 3 138 a0_1A a0_1c a0_1l]).Re W6 0 w.heap.size := RA5_0.below hb6 (by omega)
              clear RA5_0
              have RA6_1 : (E.agg [.lst 6 135 a1_0A a1_0c a1_0l, .lst 3 138 a1_1A a1_1c a1_1l]).Re W6 0 w.heap.size := RA5_1.below hb6 (by omega)
              clear RA5_1
              have HO6_6 := Lib.hid (HO5_6.out.below hb6 (by omega))
              clear HO5_6
              have hB6 : Below w.heap.size w W6 := hB5.trans (hb6.mono (by omega))
              go_upto_region 11 with fail
              go_cut [9] (fun s9 wx => s9 = .bool (sameProgD D0 D1) ∧ Below W6.heap.size W6 wx)
              case first =>
                have hwW := hB6.size
                have ltW2 : g2 < W6.heap.size := by omega
                have ltW3 : g3 < W6.heap.size := by omega
                have hiW6 : W5.heap.size ≤ W6.heap.size := by omega
                have hiW7 : W6.heap.size ≤ W6.heap.size := by omega
                clear hs1 lu0 lb0 lu1 lb1 hs2 hs3 hs4 lu2 lb2 nb2_6 lu3 lb3 nb3_7
                clear B6_0 B6_1
                have z0_2_0 : W6.cell? ⟨g2, 0, none⟩ = some (.slice x6_0A x6_0l.length x6_0c) := cell_of B6_2 rfl
                have z0_2_1 : W6.cell? ⟨g2, 1, none⟩ = some (.slice x6_1A x6_1l.length x6_1c) := cell_of B6_2 rfl
                have z0_3_0 : W6.cell? ⟨g3, 0, none⟩ = some (.slice x7_0A x7_0l.length x7_0c) := cell_of B6_3 rfl
                have z0_3_1 : W6.cell? ⟨g3, 1, none⟩ = some (.slice x7_1A x7_1l.length x7_1c) := cell_of B6_3 rfl
                go_wp2_with fail
                go_at_call 21
                refine (implSameProg_u HT6.out HT7.out _ (by have h : (E.agg [.lst 6 93 x6_0A x6_0c x6_0l, .lst 3 97 x6_1A x6_1c x6_1l]).In W6 := HO6_6.out.inn; exact (by repeat (first | (with_reducible assumption) | (with_reducible refine E.In.drew ?_) | (with_reducible refine E.In.drewN ?_ _) | (with_reducible refine E.In.alloc ?_ _) | (refine E.In.below ?_ (by with_reducible assumption) ?_) | omega | (· simp) | (· (simp; omega))))) (by have h : (E.agg [.lst 6 93 x7_0A x7_0c x7_0l, .lst 3 97 x7_1A x7_1c x7_1l]).In W6 := HO6_7.out.inn; exact (by repeat (first | (with_reducible assumption) | (with_reducible refine E.In.drew ?_) | (with_reducible refine E.In.drewN ?_ _) | (with_reducible refine E.In.alloc ?_ _) | (refine E.In.below ?_ (by with_reducible assumption) ?_) | omega | (· simp) | (· (simp; omega))))) (sz_le HD6 hD0) (sz_le HD7 hD1)).mono ?_; rintro e8 w8 ⟨e8h, hb8⟩; rw [HD6.out] at e8h; rw [HD7.out] at e8h; obtain rfl : e8 = .returned (.bool (sameProgD D0 D1)) := e8h; have hz8 := hb8.size; (try simp only [World.size_alloc, World.size_drew, World.heap_drewN, World.size_setCell] at hz8)
                go_wp2_with fail
                go_meet
                refine ⟨rfl, ?_⟩
                · exact (by repeat (first | (with_reducible refine Below.setCell ?_ (by first | omega | (· simp) | (· (simp; omega))) _) | (with_reducible refine Below.alloc ?_ (by first | omega | (· simp) | (· (simp; omega))) _) | (with_reducible refine Below.drew ?_) | (with_reducible refine bdrewN ?_ _) | (with_reducible exact Below.refl _ _) | (with_reducible assumption) | (with_reducible refine Below.trans ?_ (Below.mono (by assumption) (by first | omega | (· simp) | (· (simp; omega))))) | (with_reducible refine Below.trans ?_ (Kp.below (by assumption) (by first | omega | (· simp) | (· (simp; omega))) (by first | omega | (· simp) | (· (simp; omega)))))))
              case rest =>
                obtain ⟨rfl, hb7⟩ := hcut
                obtain ⟨W7, hWeq⟩ : ∃ W : World, W = wc := ⟨_, rfl⟩
                subst hWeq
                have hs7 := hb7.size
                have B7_0 := (hb7.block g0 (by omega)).trans B6_0
                clear B6_0
                have B7_1 := (hb7.block g1 (by omega)).trans B6_1
                clear B6_1
                have B7_2 := (hb7.block g2 (by omega)).trans B6_2
                clear B6_2
                have B7_3 := (hb7.block g3 (by omega)).trans B6_3
                clear B6_3
                have RA7_0 : (E.agg [.lst 6 135 a0_0A a0_0c a0_0l, .lst 3 138 a0_1A a0_1c a0_1l]).Re W7 0 w.heap.size := RA6_0.below hb7 (by omega)
                clear RA6_0
                have RA7_1 : (E.agg [.lst 6 135 a1_0A a1_0c a1_0l, .lst 3 138 a1_1A a1_1c a1_1l]).Re W7 0 w.heap.size := RA6_1.below hb7 (by omega)
                clear RA6_1
                have HO7_6 := Lib.hid (HO6_6.out.below hb7 (by omega))
                clear HO6_6
                have HO7_7 := Lib.hid (HO6_7.out.below hb7 (by omega))
                clear HO6_7
                have hB7 : Below w.heap.size w W7 := hB6.trans (hb7.mono (by omega))
                go_upto_region 14 with fail
                go_cut [39] (fun s39 wx => s39 = .bool false ∧ Below W7.heap.size W7 wx)
                case first =>
                  have hwW := hB7.size
                  have ltW2 : g2 < W7.heap.size := by omega
                  have ltW0 : g0 < W7.heap.size := by omega
                  have hiW6 : W5.heap.size ≤ W7.heap.size := by omega
                  clear hs1 lu0 lb0 lu1 lb1 hs2 hs3 hs4 lu2 lb2 nb2_6 hs6 lu3 lb3 nb3_7 hs7
                  clear B7_1 B7_3 HO7_7
                  have z0_2_0 : W7.cell? ⟨g2, 0, none⟩ = some (.slice x6_0A x6_0l.length x6_0c) := cell_of B7_2 rfl
                  have z0_2_1 : W7.cell? ⟨g2, 1, none⟩ = some (.slice x6_1A x6_1l.length x6_1c) := cell_of B7_2 rfl
                  have z0_0_0 : W7.cell? ⟨g0, 0, none⟩ = some (.slice a0_0A a0_0l.length a0_0c) := cell_of B7_0 rfl
                  have z0_0_1 : W7.cell? ⟨g0, 1, none⟩ = some (.slice a0_1A a0_1l.length a0_1c) := cell_of B7_0 rfl
                  go_region_held3 (fun w' => w'.cell? ⟨g2, 0, none⟩ = some (.slice x6_0A x6_0l.length x6_0c) ∧ w'.cell? ⟨g2, 1, none⟩ = some (.slice x6_1A x6_1l.length x6_1c) ∧ w'.cell? ⟨g0, 0, none⟩ = some (.slice a0_0A a0_0l.length a0_0c) ∧ w'.cell? ⟨g0, 1, none⟩ = some (.slice a0_1A a0_1l.length a0_1c))
                    (first | exact ⟨z0_2_0, z0_2_1, z0_0_0, z0_0_1⟩ | (refine ⟨?_, ?_, ?_, ?_⟩ <;> (repeat (first | (with_reducible assumption) | (with_reducible refine cell_set_ne ?_ ?_) | (with_reducible refine cell_drew ?_) | (with_reducible refine cell_drewN ?_) | (with_reducible refine cell_alloc ?_ ?_) | omega | (simp; done) | (simp; omega)))) | skip)
                    ((first
                      | (go_at_call 20; (with_reducible change Calls _ _ #[.agg #[.slice a0_0A a0_0l.length a0_0c, .slice a0_1A a0_1l.length a0_1c]] _ _); refine (toProg_all TA0.out _ (by have h : (E.agg [.lst 6 135 a0_0A a0_0c a0_0l, .lst 3 138 a0_1A a0_1c a0_1l]).In W7 := E.Re.inn RA7_0 (by omega); exact (by repeat (first | (with_reducible assumption) | (with_reducible refine E.In.drew ?_) | (with_reducible refine E.In.drewN ?_ _) | (with_reducible refine E.In.alloc ?_ _) | (refine E.In.below ?_ (by with_reducible assumption) ?_) | omega | (· simp) | (· (simp; omega))))) (by omega)).mono ?_; rintro e9 w9 ⟨x9, e9h, HD9, ht9, ho9, hn9, hb9⟩; have HT9 := Lib.hid ht9; have HD9 := Lib.hid (HD9.out.trans HDa0.out); obtain ⟨x9_0A, x9_0c, x9_0l, x9_1A, x9_1c, x9_1l, rfl, -, -, -⟩ := shape_impl_Prog ht9; obtain rfl : e9 = .returned (.agg #[.slice x9_0A x9_0l.length x9_0c, .slice x9_1A x9_1l.length x9_1c]) := e9h; have HO9 := Lib.hid ho9; have HN9 := Lib.hid hn9; clear ht9 ho9 hn9; have hz9 := hb9.size; (try simp only [World.size_alloc, World.size_drew, World.heap_drewN, World.size_setCell] at hz9); have z9_2_0 : w9.cell? ⟨g2, 0, none⟩ = some (.slice x6_0A x6_0l.length x6_0c) := cell_of (by exact (by repeat (first | (with_reducible assumption) | (with_reducible refine hp_drew ?_) | (with_reducible refine hp_drewN ?_) | (with_reducible refine hp_alloc ?_ ?_) | (refine hp_below (by with_reducible assumption) ?_ ?_) | omega | (· simp) | (· (simp; omega)))) : w9.heap[g2]? = some (.cells #[.slice x6_0A x6_0l.length x6_0c, .slice x6_1A x6_1l.length x6_1c] 55 (0, 0))) rfl; have z9_2_1 : w9.cell? ⟨g2, 1, none⟩ = some (.slice x6_1A x6_1l.length x6_1c) := cell_of (by exact (by repeat (first | (with_reducible assumption) | (with_reducible refine hp_drew ?_) | (with_reducible refine hp_drewN ?_) | (with_reducible refine hp_alloc ?_ ?_) | (refine hp_below (by with_reducible assumption) ?_ ?_) | omega | (· simp) | (· (simp; omega)))) : w9.heap[g2]? = some (.cells #[.slice x6_0A x6_0l.length x6_0c, .slice x6_1A x6_1l.length x6_1c] 55 (0, 0))) rfl; have z9_0_0 : w9.cell? ⟨g0, 0, none⟩ = some (.slice a0_0A a0_0l.length a0_0c) := cell_of (by exact (by repeat (first | (with_reducible assumption) | (with_reducible refine hp_drew ?_) | (with_reducible refine hp_drewN ?_) | (with_reducible refine hp_alloc ?_ ?_) | (refine hp_below (by with_reducible assumption) ?_ ?_) | omega | (· simp) | (· (simp; omega)))) : w9.heap[g0]? = some (.cells #[.slice a0_0A a0_0l.length a0_0c, .slice a0_1A a0_1l.length a0_1c] 49 (0, 0))) rfl; have z9_0_1 : w9.cell? ⟨g0, 1, none⟩ = some (.slice a0_1A a0_1l.length a0_1c) := cell_of (by exact (by repeat (first | (with_reducible assumption) | (with_reducible refine hp_drew ?_) | (with_reducible refine hp_drewN ?_) | (with_reducible refine hp_alloc ?_ ?_) | (refine hp_below (by with_reducible assumption) ?_ ?_) | omega | (· simp) | (· (simp; omega)))) : w9.heap[g0]? = some (.cells #[.slice a0_0A a0_0l.length a0_0c, .slice a0_1A a0_1l.length a0_1c] 49 (0, 0))) rfl)
                      | (go_at_call 22; refine (eqProg_all HT6.out HT9.out ((show (E.agg [.lst 6 93 x6_0A x6_0c x6_0l, .lst 3 97 x6_1A x6_1c x6_1l]).d = D0 from HD6.out).trans (show (E.agg [.lst 6 93 x9_0A x9_0c x9_0l, .lst 3 97 x9_1A x9_1c x9_1l]).d = D0 from HD9.out).symm) _ (by have h : (E.agg [.lst 6 93 x6_0A x6_0c x6_0l, .lst 3 97 x6_1A x6_1c x6_1l]).In W7 := HO7_6.out.inn; exact (by repeat (first | (with_reducible assumption) | (with_reducible refine E.In.drew ?_) | (with_reducible refine E.In.drewN ?_ _) | (with_reducible refine E.In.alloc ?_ _) | (refine E.In.below ?_ (by with_reducible assumption) ?_) | omega | (· simp) | (· (simp; omega))))) (by have h := HO9.out.inn; exact (by repeat (first | (with_reducible assumption) | (with_reducible refine E.In.drew ?_) | (with_reducible refine E.In.drewN ?_ _) | (with_reducible refine E.In.alloc ?_ _) | (refine E.In.below ?_ (by with_reducible assumption) ?_) | omega | (· simp) | (· (simp; omega)))))).mono ?_; rintro e w10 ⟨rfl, hb10⟩; have hz10 := hb10.size; (try simp only [World.size_alloc, World.size_drew, World.heap_drewN, World.size_setCell] at hz10); have z10_2_0 : w10.cell? ⟨g2, 0, none⟩ = some (.slice x6_0A x6_0l.length x6_0c) := cell_of (by exact (by repeat (first | (with_reducible assumption) | (with_reducible refine hp_drew ?_) | (with_reducible refine hp_drewN ?_) | (with_reducible refine hp_alloc ?_ ?_) | (refine hp_below (by with_reducible assumption) ?_ ?_) | omega | (· simp) | (· (simp; omega)))) : w10.heap[g2]? = some (.cells #[.slice x6_0A x6_0l.length x6_0c, .slice x6_1A x6_1l.length x6_1c] 55 (0, 0))) rfl; have z10_2_1 : w10.cell? ⟨g2, 1, none⟩ = some (.slice x6_1A x6_1l.length x6_1c) := cell_of (by exact (by repeat (first | (with_reducible assumption) | (with_reducible refine hp_drew ?_) | (with_reducible refine hp_drewN ?_) | (with_reducible refine hp_alloc ?_ ?_) | (refine hp_below (by with_reducible assumption) ?_ ?_) | omega | (· simp) | (· (simp; omega)))) : w10.heap[g2]? = some (.cells #[.slice x6_0A x6_0l.length x6_0c, .slice x6_1A x6_1l.length x6_1c] 55 (0, 0))) rfl; have z10_0_0 : w10.cell? ⟨g0, 0, none⟩ = some (.slice a0_0A a0_0l.length a0_0c) := cell_of (by exact (by repeat (first | (with_reducible assumption) | (with_reducible refine hp_drew ?_) | (with_reducible refine hp_drewN ?_) | (with_reducible refine hp_alloc ?_ ?_) | (refine hp_below (by with_reducible assumption) ?_ ?_) | omega | (· simp) | (· (simp; omega)))) : w10.heap[g0]? = some (.cells #[.slice a0_0A a0_0l.length a0_0c, .slice a0_1A a0_1l.length a0_1c] 49 (0, 0))) rfl; have z10_0_1 : w10.cell? ⟨g0, 1, none⟩ = some (.slice a0_1A a0_1l.length a0_1c) := cell_of (by exact (by repeat (first | (with_reducible assumption) | (with_reducible refine hp_drew ?_) | (with_reducible refine hp_drewN ?_) | (with_reducible refine hp_alloc ?_ ?_) | (refine hp_below (by with_reducible assumption) ?_ ?_) | omega | (· simp) | (· (simp; omega)))) : w10.heap[g0]? = some (.cells #[.slice a0_0A a0_0l.length a0_0c, .slice a0_1A a0_1l.length a0_1c] 49 (0, 0))) rfl)))
                  all_goals
                    go_wp2_with fail
                    go_meet
                    refine ⟨rfl, ?_⟩
                    · exact (by repeat (first | (with_reducible refine Below.setCell ?_ (by first | omega | (· simp) | (· (simp; omega))) _) | (with_reducible refine Below.alloc ?_ (by first | omega | (· simp) | (· (simp; omega))) _) | (with_reducible refine Below.drew ?_) | (with_reducible refine bdrewN ?_ _) | (with_reducible exact Below.refl _ _) | (with_reducible assumption) | (with_reducible refine Below.trans ?_ (Below.mono (by assumption) (by first | omega | (· simp) | (· (simp; omega))))) | (with_reducible refine Below.trans ?_ (Kp.below (by assumption) (by first | omega | (· simp) | (· (simp; omega))) (by first | omega | (· simp) | (· (simp; omega)))))))
                case rest =>
                  obtain ⟨rfl, hb8⟩ := hcut
                  obtain ⟨W8, hWeq⟩ : ∃ W : World, W = wc := ⟨_, rfl⟩
                  subst hWeq
                  have hs8 := hb8.size
                  have B8_0 := (hb8.block g0 (by omega)).trans B7_0
                  clear B7_0
                  have B8_1 := (hb8.block g1 (by omega)).trans B7_1
                  clear B7_1
                  have B8_2 := (hb8.block g2 (by omega)).trans B7_2
                  clear B7_2
                  have B8_3 := (hb8.block g3 (by omega)).trans B7_3
                  clear B7_3
                  have RA8_0 : (E.agg [.lst 6 135 a0_0A a0_0c a0_0l, .lst 3 138 a0_1A a0_1c a0_1l]).Re W8 0 w.heap.size := RA7_0.below hb8 (by omega)
                  clear RA7_0
                  have RA8_1 : (E.agg [.lst 6 135 a1_0A a1_0c a1_0l, .lst 3 138 a1_1A a1_1c a1_1l]).Re W8 0 w.heap.size := RA7_1.below hb8 (by omega)
                  clear RA7_1
                  have HO8_6 := Lib.hid (HO7_6.out.below hb8 (by omega))
                  clear HO7_6
                  have HO8_7 := Lib.hid (HO7_7.out.below hb8 (by omega))
                  clear HO7_7
                  have hB8 : Below w.heap.size w W8 := hB7.trans (hb8.mono (by omega))
                  go_upto_region 16 with fail
                  go_cut [44] (fun s44 wx => s44 = .bool false ∧ Below W8.heap.size W8 wx)
                  case first =>
                    have hwW := hB8.size
                    have ltW3 : g3 < W8.heap.size := by omega
                    have ltW1 : g1 < W8.heap.size := by omega
                    have hiW7 : W6.heap.size ≤ W8.heap.size := by omega
                    clear hs1 lu0 lb0 lu1 lb1 hs2 hs3 hs4 hs5 lu2 lb2 nb2_6 lu3 lb3 nb3_7 hs7 hs8
                    clear B8_0 B8_2 HO8_6
                    have z0_3_0 : W8.cell? ⟨g3, 0, none⟩ = some (.slice x7_0A x7_0l.length x7_0c) := cell_of B8_3 rfl
                    have z0_3_1 : W8.cell? ⟨g3, 1, none⟩ = some (.slice x7_1A x7_1l.length x7_1c) := cell_of B8_3 rfl
                    have z0_1_0 : W8.cell? ⟨g1, 0, none⟩ = some (.slice a1_0A a1_0l.length a1_0c) := cell_of B8_1 rfl
                    have z0_1_1 : W8.cell? ⟨g1, 1, none⟩ = some (.slice a1_1A a1_1l.length a1_1c) := cell_of B8_1 rfl
                    go_region_held3 (fun w' => w'.cell? ⟨g3, 0, none⟩ = some (.slice x7_0A x7_0l.length x7_0c) ∧ w'.cell? ⟨g3, 1, none⟩ = some (.slice x7_1A x7_1l.length x7_1c) ∧ w'.cell? ⟨g1, 0, none⟩ = some (.slice a1_0A a1_0l.length a1_0c) ∧ w'.cell? ⟨g1, 1, none⟩ = some (.slice a1_1A a1_1l.length a1_1c))
                      (first | exact ⟨z0_3_0, z0_3_1, z0_1_0, z0_1_1⟩ | (refine ⟨?_, ?_, ?_, ?_⟩ <;> (repeat (first | (with_reducible assumption) | (with_reducible refine cell_set_ne ?_ ?_) | (with_reducible refine cell_drew ?_) | (with_reducible refine cell_drewN ?_) | (with_reducible refine cell_alloc ?_ ?_) | omega | (simp; done) | (simp; omega)))) | skip)
                      ((first
                        | (go_at_call 20; (with_reducible change Calls _ _ #[.agg #[.slice a1_0A a1_0l.length a1_0c, .slice a1_1A a1_1l.length a1_1c]] _ _); refine (toProg_all TA1.out _ (by have h : (E.agg [.lst 6 135 a1_0A a1_0c a1_0l, .lst 3 138 a1_1A a1_1c a1_1l]).In W8 := E.Re.inn RA8_1 (by omega); exact (by repeat (first | (with_reducible assumption) | (with_reducible refine E.In.drew ?_) | (with_reducible refine E.In.drewN ?_ _) | (with_reducible refine E.In.alloc ?_ _) | (refine E.In.below ?_ (by with_reducible assumption) ?_) | omega | (· simp) | (· (simp; omega))))) (by omega)).mono ?_; rintro e11 w11 ⟨x11, e11h, HD11, ht11, ho11, hn11, hb11⟩; have HT11 := Lib.hid ht11; have HD11 := Lib.hid (HD11.out.trans HDa1.out); obtain ⟨x11_0A, x11_0c, x11_0l, x11_1A, x11_1c, x11_1l, rfl, -, -, -⟩ := shape_impl_Prog ht11; obtain rfl : e11 = .returned (.agg #[.slice x11_0A x11_0l.length x11_0c, .slice x11_1A x11_1l.length x11_1c]) := e11h; have HO11 := Lib.hid ho11; have HN11 := Lib.hid hn11; clear ht11 ho11 hn11; have hz11 := hb11.size; (try simp only [World.size_alloc, World.size_drew, World.heap_drewN, World.size_setCell] at hz11); have z11_3_0 : w11.cell? ⟨g3, 0, none⟩ = some (.slice x7_0A x7_0l.length x7_0c) := cell_of (by exact (by repeat (first | (with_reducible assumption) | (with_reducible refine hp_drew ?_) | (with_reducible refine hp_drewN ?_) | (with_reducible refine hp_alloc ?_ ?_) | (refine hp_below (by with_reducible assumption) ?_ ?_) | omega | (· simp) | (· (simp; omega)))) : w11.heap[g3]? = some (.cells #[.slice x7_0A x7_0l.length x7_0c, .slice x7_1A x7_1l.length x7_1c] 55 (0, 0))) rfl; have z11_3_1 : w11.cell? ⟨g3, 1, none⟩ = some (.slice x7_1A x7_1l.length x7_1c) := cell_of (by exact (by repeat (first | (with_reducible assumption) | (with_reducible refine hp_drew ?_) | (with_reducible refine hp_drewN ?_) | (with_reducible refine hp_alloc ?_ ?_) | (refine hp_below (by with_reducible assumption) ?_ ?_) | omega | (· simp) | (· (simp; omega)))) : w11.heap[g3]? = some (.cells #[.slice x7_0A x7_0l.length x7_0c, .slice x7_1A x7_1l.length x7_1c] 55 (0, 0))) rfl; have z11_1_0 : w11.cell? ⟨g1, 0, none⟩ = some (.slice a1_0A a1_0l.length a1_0c) := cell_of (by exact (by repeat (first | (with_reducible assumption) | (with_reducible refine hp_drew ?_) | (with_reducible refine hp_drewN ?_) | (with_reducible refine hp_alloc ?_ ?_) | (refine hp_below (by with_reducible assumption) ?_ ?_) | omega | (· simp) | (· (simp; omega)))) : w11.heap[g1]? = some (.cells #[.slice a1_0A a1_0l.length a1_0c, .slice a1_1A a1_1l.length a1_1c] 49 (0, 0))) rfl; have z11_1_1 : w11.cell? ⟨g1, 1, none⟩ = some (.slice a1_1A a1_1l.length a1_1c) := cell_of (by exact (by repeat (first | (with_reducible assumption) | (with_reducible refine hp_drew ?_) | (with_reducible refine hp_drewN ?_) | (with_reducible refine hp_alloc ?_ ?_) | (refine hp_below (by with_reducible assumption) ?_ ?_) | omega | (· simp) | (· (simp; omega)))) : w11.heap[g1]? = some (.cells #[.slice a1_0A a1_0l.length a1_0c, .slice a1_1A a1_1l.length a1_1c] 49 (0, 0))) rfl)
                        | (go_at_call 22; refine (eqProg_all HT7.out HT11.out ((show (E.agg [.lst 6 93 x7_0A x7_0c x7_0l, .lst 3 97 x7_1A x7_1c x7_1l]).d = D1 from HD7.out).trans (show (E.agg [.lst 6 93 x11_0A x11_0c x11_0l, .lst 3 97 x11_1A x11_1c x11_1l]).d = D1 from HD11.out).symm) _ (by have h : (E.agg [.lst 6 93 x7_0A x7_0c x7_0l, .lst 3 97 x7_1A x7_1c x7_1l]).In W8 := HO8_7.out.inn; exact (by repeat (first | (with_reducible assumption) | (with_reducible refine E.In.drew ?_) | (with_reducible refine E.In.drewN ?_ _) | (with_reducible refine E.In.alloc ?_ _) | (refine E.In.below ?_ (by with_reducible assumption) ?_) | omega | (· simp) | (· (simp; omega))))) (by have h := HO11.out.inn; exact (by repeat (first | (with_reducible assumption) | (with_reducible refine E.In.drew ?_) | (with_reducible refine E.In.drewN ?_ _) | (with_reducible refine E.In.alloc ?_ _) | (refine E.In.below ?_ (by with_reducible assumption) ?_) | omega | (· simp) | (· (simp; omega)))))).mono ?_; rintro e w12 ⟨rfl, hb12⟩; have hz12 := hb12.size; (try simp only [World.size_alloc, World.size_drew, World.heap_drewN, World.size_setCell] at hz12); have z12_3_0 : w12.cell? ⟨g3, 0, none⟩ = some (.slice x7_0A x7_0l.length x7_0c) := cell_of (by exact (by repeat (first | (with_reducible assumption) | (with_reducible refine hp_drew ?_) | (with_reducible refine hp_drewN ?_) | (with_reducible refine hp_alloc ?_ ?_) | (refine hp_below (by with_reducible assumption) ?_ ?_) | omega | (· simp) | (· (simp; omega)))) : w12.heap[g3]? = some (.cells #[.slice x7_0A x7_0l.length x7_0c, .slice x7_1A x7_1l.length x7_1c] 55 (0, 0))) rfl; have z12_3_1 : w12.cell? ⟨g3, 1, none⟩ = some (.slice x7_1A x7_1l.length x7_1c) := cell_of (by exact (by repeat (first | (with_reducible assumption) | (with_reducible refine hp_drew ?_) | (with_reducible refine hp_drewN ?_) | (with_reducible refine hp_alloc ?_ ?_) | (refine hp_below (by with_reducible assumption) ?_ ?_) | omega | (· simp) | (· (simp; omega)))) : w12.heap[g3]? = some (.cells #[.slice x7_0A x7_0l.length x7_0c, .slice x7_1A x7_1l.length x7_1c] 55 (0, 0))) rfl; have z12_1_0 : w12.cell? ⟨g1, 0, none⟩ = some (.slice a1_0A a1_0l.length a1_0c) := cell_of (by exact (by repeat (first | (with_reducible assumption) | (with_reducible refine hp_drew ?_) | (with_reducible refine hp_drewN ?_) | (with_reducible refine hp_alloc ?_ ?_) | (refine hp_below (by with_reducible assumption) ?_ ?_) | omega | (· simp) | (· (simp; omega)))) : w12.heap[g1]? = some (.cells #[.slice a1_0A a1_0l.length a1_0c, .slice a1_1A a1_1l.length a1_1c] 49 (0, 0))) rfl; have z12_1_1 : w12.cell? ⟨g1, 1, none⟩ = some (.slice a1_1A a1_1l.length a1_1c) := cell_of (by exact (by repeat (first | (with_reducible assumption) | (with_reducible refine hp_drew ?_) | (with_reducible refine hp_drewN ?_) | (with_reducible refine hp_alloc ?_ ?_) | (refine hp_below (by with_reducible assumption) ?_ ?_) | omega | (· simp) | (· (simp; omega)))) : w12.heap[g1]? = some (.cells #[.slice a1_0A a1_0l.length a1_0c, .slice a1_1A a1_1l.length a1_1c] 49 (0, 0))) rfl)))
                    all_goals
                      go_wp2_with fail
                      go_meet
                      refine ⟨rfl, ?_⟩
                      · exact (by repeat (first | (with_reducible refine Below.setCell ?_ (by first | omega | (· simp) | (· (simp; omega))) _) | (with_reducible refine Below.alloc ?_ (by first | omega | (· simp) | (· (simp; omega))) _) | (with_reducible refine Below.drew ?_) | (with_reducible refine bdrewN ?_ _) | (with_reducible exact Below.refl _ _) | (with_reducible assumption) | (with_reducible refine Below.trans ?_ (Below.mono (by assumption) (by first | omega | (· simp) | (· (simp; omega))))) | (with_reducible refine Below.trans ?_ (Kp.below (by assumption) (by first | omega | (· simp) | (· (simp; omega))) (by first | omega | (· simp) | (· (simp; omega)))))))
                  case rest =>
                    obtain ⟨rfl, hb9⟩ := hcut
                    obtain ⟨W9, hWeq⟩ : ∃ W : World, W = wc := ⟨_, rfl⟩
                    subst hWeq
                    have hs9 := hb9.size
                    have B9_0 := (hb9.block g0 (by omega)).trans B8_0
                    clear B8_0
                    have B9_1 := (hb9.block g1 (by omega)).trans B8_1
                    clear B8_1
                    have B9_2 := (hb9.block g2 (by omega)).trans B8_2
                    clear B8_2
                    have B9_3 := (hb9.block g3 (by omega)).trans B8_3
                    clear B8_3
                    have RA9_0 : (E.agg [.lst 6 135 a0_0A a0_0c a0_0l, .lst 3 138 a0_1A a0_1c a0_1l]).Re W9 0 w.heap.size := RA8_0.below hb9 (by omega)
                    clear RA8_0
                    have RA9_1 : (E.agg [.lst 6 135 a1_0A a1_0c a1_0l, .lst 3 138 a1_1A a1_1c a1_1l]).Re W9 0 w.heap.size := RA8_1.below hb9 (by omega)
                    clear RA8_1
                    have HO9_6 := Lib.hid (HO8_6.out.below hb9 (by omega))
                    clear HO8_6
                    have HO9_7 := Lib.hid (HO8_7.out.below hb9 (by omega))
                    clear HO8_7
                    have hB9 : Below w.heap.size w W9 := hB8.trans (hb9.mono (by omega))
                    go_wp2
                    go_ret
                    exact ⟨rfl, hB9⟩
end Go.Proofs.Ytkhioiehcaaejaa
