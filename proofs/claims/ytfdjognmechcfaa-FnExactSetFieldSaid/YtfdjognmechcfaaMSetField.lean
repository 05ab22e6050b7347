/- The law FnExactSetField, walked. -/
import Derived.Test.YtfdjognmechcfaaUSetField
import Derived.Deep.RegionHeld3
import Derived.Deep.DeepCutAuto
namespace Go.Proofs.Ytfdjognmechcfaa
open Go.RowKit

set_option maxRecDepth 100000 in
set_option maxHeartbeats 8000000 in
theorem setField_law (w : World) {a0 : E} (ta0 : a0.Ty Try.prog 24) (ra0 : a0.In w) (a1 : Int) (ga1 : (Lit.int .i64 a1).wf = true) (a2 : ByteArray) (ga2 : a2.size ≤ 9223372036854775807) :
    Calls Try.prog 3 #[a0.val, .int .i64 a1, .string a2] w fun e w' => e = .returned (.bool true) ∧ Below w.heap.size w w' := by
  have TA0 := Lib.hid ta0
  obtain ⟨D0, HDa0⟩ : ∃ D : E, Hid (a0.d = D) := ⟨_, rfl⟩
  obtain ⟨a0_0, a0_1A, a0_1c, a0_1l, rfl, ga0_0, ga0_1, -⟩ := shape_laws_Rec ta0
  have ga1' := i64_bounds ga1
  change Calls _ _ #[.agg #[.string a0_0, .slice a0_1A a0_1l.length a0_1c], .int .i64 a1, .string a2] w _
  by_cases hsz2 : (1048576 : Int) < a2.size
  · go_enter Try.func3, Try.ntmps3
    go_wp2
    go_ret
    exact ⟨rfl, by exact (by repeat (first | (with_reducible refine Below.setCell ?_ (by first | omega | (· simp) | (· (simp; omega))) _) | (with_reducible refine Below.alloc ?_ (by first | omega | (· simp) | (· (simp; omega))) _) | (with_reducible refine Below.drew ?_) | (with_reducible refine bdrewN ?_ _) | (with_reducible exact Below.refl _ _) | (with_reducible assumption) | (with_reducible refine Below.trans ?_ (Below.mono (by assumption) (by first | omega | (· simp) | (· (simp; omega))))) | (with_reducible refine Below.trans ?_ (Kp.below (by assumption) (by first | omega | (· simp) | (· (simp; omega))) (by first | omega | (· simp) | (· (simp; omega)))))))⟩
  go_enter Try.func3, Try.ntmps3
  go_upto_region 0 with fail
  go_cut [3, 6] (fun s3 s6 wx => ∃ (g0 : Nat), s3 = .pointer (some ⟨g0, 0, none⟩) ∧ s6 = .bool false ∧ wx.heap[g0]? = some (.cells #[.string a0_0, .slice a0_1A a0_1l.length a0_1c] 24 (0, 0)) ∧ w.heap.size ≤ g0 ∧ Below w.heap.size w wx)
  case first =>
    go_wp2_with fail
    go_meet
    refine ⟨_, rfl, rfl, ?_, ?_, ?_⟩
    · (repeat (first | (with_reducible assumption) | (with_reducible refine hp_drew ?_) | (with_reducible refine hp_drewN ?_) | (refine hp_new ?_; first | rfl | (simp; done)) | (with_reducible refine hp_alloc ?_ ?_) | (refine hp_below (by with_reducible assumption) ?_ ?_) | omega | (· simp) | (· (simp; omega))))
    · first | omega | (simp; done) | (simp; omega)
    · exact (by repeat (first | (with_reducible refine Below.setCell ?_ (by first | omega | (· simp) | (· (simp; omega))) _) | (with_reducible refine Below.alloc ?_ (by first | omega | (· simp) | (· (simp; omega))) _) | (with_reducible refine Below.drew ?_) | (with_reducible refine bdrewN ?_ _) | (with_reducible exact Below.refl _ _) | (with_reducible assumption) | (with_reducible refine Below.trans ?_ (Below.mono (by assumption) (by first | omega | (· simp) | (· (simp; omega))))) | (with_reducible refine Below.trans ?_ (Kp.below (by assumption) (by first | omega | (· simp) | (· (simp; omega))) (by first | omega | (· simp) | (· (simp; omega)))))))
  case rest =>
    obtain ⟨g0, rfl, rfl, B1_0, lb0, hb1⟩ := hcut
    obtain ⟨W1, hWeq⟩ : ∃ W : World, W = wc := ⟨_, rfl⟩
    subst hWeq
    have hs1 := hb1.size
    have lu0 := blk_lt B1_0
    have RA1_0 : (E.agg [.str a0_0, .lst 1 9 a0_1A a0_1c a0_1l]).Re W1 0 w.heap.size := (show (E.agg [.str a0_0, .lst 1 9 a0_1A a0_1c a0_1l]).Re w 0 w.heap.size from ra0).below hb1 (by omega)
    have hB1 : Below w.heap.size w W1 := hb1
    go_upto_region 4 with fail
    go_cut [7] (fun s7 wx => ∃ (r1 : Int), s7 = .int .i64 r1 ∧ (r1 < 0 ∨ Hid (r1 + (E.agg [.str a0_0, .lst 1 9 a0_1A a0_1c a0_1l]).sz = 1048576)) ∧ r1 ≤ 1048576 ∧ Below W1.heap.size W1 wx)
    case first =>
      have hwW := hB1.size
      have ltW0 : g0 < W1.heap.size := by omega
      clear hs1 lu0 lb0
      have z0_0_0 : W1.cell? ⟨g0, 0, none⟩ = some (.string a0_0) := cell_of B1_0 rfl
      have z0_0_1 : W1.cell? ⟨g0, 1, none⟩ = some (.slice a0_1A a0_1l.length a0_1c) := cell_of B1_0 rfl
      go_wp2_with fail
      go_at_call 5
      refine (szRec_all TA0.out _ _ (by have h : (E.agg [.str a0_0, .lst 1 9 a0_1A a0_1c a0_1l]).In W1 := E.Re.inn RA1_0 (by omega); exact (by repeat (first | (with_reducible assumption) | (with_reducible refine E.In.drew ?_) | (with_reducible refine E.In.drewN ?_ _) | (with_reducible refine E.In.alloc ?_ _) | (refine E.In.below ?_ (by with_reducible assumption) ?_) | omega | (· simp) | (· (simp; omega))))) (by omega) (by omega)).mono ?_; rintro e w1 ⟨r1, rfl, hr1, hl1, hb1⟩
      go_wp2_with fail
      go_meet
      refine ⟨r1, rfl, ?_, ?_, ?_⟩
      · exact hr1
      · exact hl1
      · exact (by repeat (first | (with_reducible refine Below.setCell ?_ (by first | omega | (· simp) | (· (simp; omega))) _) | (with_reducible refine Below.alloc ?_ (by first | omega | (· simp) | (· (simp; omega))) _) | (with_reducible refine Below.drew ?_) | (with_reducible refine bdrewN ?_ _) | (with_reducible exact Below.refl _ _) | (with_reducible assumption) | (with_reducible refine Below.trans ?_ (Below.mono (by assumption) (by first | omega | (· simp) | (· (simp; omega))))) | (with_reducible refine Below.trans ?_ (Kp.below (by assumption) (by first | omega | (· simp) | (· (simp; omega))) (by first | omega | (· simp) | (· (simp; omega)))))))
    case rest =>
      obtain ⟨r1, rfl, hr1, hl1, hb2⟩ := hcut
      obtain ⟨W2, hWeq⟩ : ∃ W : World, W = wc := ⟨_, rfl⟩
      subst hWeq
      have hs2 := hb2.size
      have B2_0 := (hb2.block g0 (by omega)).trans B1_0
      clear B1_0
      have RA2_0 : (E.agg [.str a0_0, .lst 1 9 a0_1A a0_1c a0_1l]).Re W2 0 w.heap.size := RA1_0.below hb2 (by omega)
      clear RA1_0
      have hB2 : Below w.heap.size w W2 := hB1.trans (hb2.mono (by omega))
      by_cases hn1 : r1 < 0
      · go_wp2
        go_ret
        exact ⟨rfl, hB2⟩
      have HR1 := hr1.resolve_left hn1
      clear hr1
      have hz1 : (E.agg [.str a0_0, .lst 1 9 a0_1A a0_1c a0_1l]).sz ≤ 1048576 := by have := HR1.out; omega
      have hD0 : D0.sz ≤ 1048576 := by rw [← HDa0.out, E.sz_d]; exact hz1
      go_upto_region 7 with fail
      go_cut [8, 9] (fun s8 s9 wx => ∃ (g1 : Nat) (x3a_0 : ByteArray) (x3a_1A : Option Addr) (x3a_1c : Nat) (x3a_1l : List E), s8 = .pointer (some ⟨g1, 0, none⟩) ∧ s9 = .bool (setFD1 D0 a1 a2) ∧ wx.heap[g1]? = some (.cells #[.string x3a_0, .slice x3a_1A x3a_1l.length x3a_1c] 26 (0, 0)) ∧ W2.heap.size ≤ g1 ∧ Hid ((E.agg [.str x3a_0, .lst 1 9 x3a_1A x3a_1c x3a_1l]).Ty Try.prog 26) ∧ Hid ((E.agg [.str x3a_0, .lst 1 9 x3a_1A x3a_1c x3a_1l]).d = setFD D0 a1 a2) ∧ (E.agg [.str x3a_0, .lst 1 9 x3a_1A x3a_1c x3a_1l]).Re wx W2.heap.size wx.heap.size ∧ Below W2.heap.size W2 wx)
      case first =>
        have hwW := hB2.size
        have ltW0 : g0 < W2.heap.size := by omega
        clear hs1 lu0 lb0 hs2
        have z0_0_0 : W2.cell? ⟨g0, 0, none⟩ = some (.string a0_0) := cell_of B2_0 rfl
        have z0_0_1 : W2.cell? ⟨g0, 1, none⟩ = some (.slice a0_1A a0_1l.length a0_1c) := cell_of B2_0 rfl
        go_wp2_with fail
        go_at_call 7
        (with_reducible change Calls _ _ #[.agg #[.string a0_0, .slice a0_1A a0_1l.length a0_1c]] _ _); refine (toRec_all TA0.out _ (by have h : (E.agg [.str a0_0, .lst 1 9 a0_1A a0_1c a0_1l]).In W2 := E.Re.inn RA2_0 (by omega); exact (by repeat (first | (with_reducible assumption) | (with_reducible refine E.In.drew ?_) | (with_reducible refine E.In.drewN ?_ _) | (with_reducible refine E.In.alloc ?_ _) | (refine E.In.below ?_ (by with_reducible assumption) ?_) | omega | (· simp) | (· (simp; omega))))) (by omega)).mono ?_; rintro e2 w2 ⟨x2, e2h, HD2, ht2, ho2, hn2, hb2⟩; have HT2 := Lib.hid ht2; have HD2 := Lib.hid (HD2.out.trans HDa0.out); obtain ⟨x2_0, x2_1A, x2_1c, x2_1l, rfl, -, -, -⟩ := shape_impl_Rec ht2; obtain rfl : e2 = .returned (.agg #[.string x2_0, .slice x2_1A x2_1l.length x2_1c]) := e2h; have HO2 := Lib.hid ho2; have HN2 := Lib.hid hn2; clear ht2 ho2 hn2; have hz2 := hb2.size; (try simp only [World.size_alloc, World.size_drew, World.heap_drewN, World.size_setCell] at hz2)
        have z2_0_0 : w2.cell? ⟨g0, 0, none⟩ = some (.string a0_0) := cell_of (by exact (by repeat (first | (with_reducible assumption) | (with_reducible refine hp_drew ?_) | (with_reducible refine hp_drewN ?_) | (with_reducible refine hp_alloc ?_ ?_) | (refine hp_below (by with_reducible assumption) ?_ ?_) | omega | (· simp) | (· (simp; omega)))) : w2.heap[g0]? = some (.cells #[.string a0_0, .slice a0_1A a0_1l.length a0_1c] 24 (0, 0))) rfl
        have z2_0_1 : w2.cell? ⟨g0, 1, none⟩ = some (.slice a0_1A a0_1l.length a0_1c) := cell_of (by exact (by repeat (first | (with_reducible assumption) | (with_reducible refine hp_drew ?_) | (with_reducible refine hp_drewN ?_) | (with_reducible refine hp_alloc ?_ ?_) | (refine hp_below (by with_reducible assumption) ?_ ?_) | omega | (· simp) | (· (simp; omega)))) : w2.heap[g0]? = some (.cells #[.string a0_0, .slice a0_1A a0_1l.length a0_1c] 24 (0, 0))) rfl
        go_wp2_with fail
        go_at_call 6
        refine (specSetField_u HT2.out a1 a2 _ (by have h := HO2.out.inn; exact (by repeat (first | (with_reducible assumption) | (with_reducible refine E.In.drew ?_) | (with_reducible refine E.In.drewN ?_ _) | (with_reducible refine E.In.alloc ?_ _) | (refine E.In.below ?_ (by with_reducible assumption) ?_) | omega | (· simp) | (· (simp; omega))))) (sz_le HD2 hD0) (by omega)).mono ?_; rintro e3 w3 ⟨x3a, e3h, HD3a, ht3a, hi3a, hb3⟩; have HD3a : Hid (x3a.d = setFD D0 a1 a2) := (by have h := HD3a.out; rw [HD2.out] at h; exact h); have HT3a := Lib.hid ht3a; obtain ⟨x3a_0, x3a_1A, x3a_1c, x3a_1l, rfl, -, -, -⟩ := shape_impl_Rec ht3a; rw [HD2.out] at e3h; obtain rfl : e3 = .returned (.tuple #[.agg #[.string x3a_0, .slice x3a_1A x3a_1l.length x3a_1c], .bool (setFD1 D0 a1 a2)]) := e3h; clear ht3a; have hz3 := hb3.size; (try simp only [World.size_alloc, World.size_drew, World.heap_drewN, World.size_setCell] at hz3)
        have z3_0_0 : w3.cell? ⟨g0, 0, none⟩ = some (.string a0_0) := cell_of (by exact (by repeat (first | (with_reducible assumption) | (with_reducible refine hp_drew ?_) | (with_reducible refine hp_drewN ?_) | (with_reducible refine hp_alloc ?_ ?_) | (refine hp_below (by with_reducible assumption) ?_ ?_) | omega | (· simp) | (· (simp; omega)))) : w3.heap[g0]? = some (.cells #[.string a0_0, .slice a0_1A a0_1l.length a0_1c] 24 (0, 0))) rfl
        have z3_0_1 : w3.cell? ⟨g0, 1, none⟩ = some (.slice a0_1A a0_1l.length a0_1c) := cell_of (by exact (by repeat (first | (with_reducible assumption) | (with_reducible refine hp_drew ?_) | (with_reducible refine hp_drewN ?_) | (with_reducible refine hp_alloc ?_ ?_) | (refine hp_below (by with_reducible assumption) ?_ ?_) | omega | (· simp) | (· (simp; omega)))) : w3.heap[g0]? = some (.cells #[.string a0_0, .slice a0_1A a0_1l.length a0_1c] 24 (0, 0))) rfl
        go_wp2_with fail
        go_meet
        refine ⟨_, x3a_0, x3a_1A, x3a_1c, x3a_1l, rfl, rfl, ?_, ?_, ?_, ?_, ?_, ?_⟩
        · (repeat (first | (with_reducible assumption) | (with_reducible refine hp_drew ?_) | (with_reducible refine hp_drewN ?_) | (refine hp_new ?_; first | rfl | (simp; done)) | (with_reducible refine hp_alloc ?_ ?_) | (refine hp_below (by with_reducible assumption) ?_ ?_) | omega | (· simp) | (· (simp; omega))))
        · first | omega | (simp; done) | (simp; omega)
        · exact HT3a
        · exact HD3a
        · refine E.Re.fin hi3a (fun hh => ?_) ?_ ?_
          · (repeat (first | (with_reducible assumption) | (with_reducible refine E.Re.drew ?_) | (with_reducible refine E.Re.drewN ?_ _) | (with_reducible refine E.Re.alloc ?_ ?_ _) | (with_reducible refine E.Re.setAny ?_ ?_ _) | (refine E.Re.below ?_ (by with_reducible assumption) ?_) | (first | omega | (dsimp only; omega) | (simp only [World.size_alloc, World.size_drew, World.heap_drewN, World.size_setCell]; omega) | (simp; done) | (simp; omega))))
          · (first | omega | (dsimp only; omega) | (simp only [World.size_alloc, World.size_drew, World.heap_drewN, World.size_setCell]; omega) | (simp; done) | (simp; omega))
          · (first | omega | (dsimp only; omega) | (simp only [World.size_alloc, World.size_drew, World.heap_drewN, World.size_setCell]; omega) | (simp; done) | (simp; omega))
        · exact (by repeat (first | (with_reducible refine Below.setCell ?_ (by first | omega | (· simp) | (· (simp; omega))) _) | (with_reducible refine Below.alloc ?_ (by first | omega | (· simp) | (· (simp; omega))) _) | (with_reducible refine Below.drew ?_) | (with_reducible refine bdrewN ?_ _) | (with_reducible exact Below.refl _ _) | (with_reducible assumption) | (with_reducible refine Below.trans ?_ (Below.mono (by assumption) (by first | omega | (· simp) | (· (simp; omega))))) | (with_reducible refine Below.trans ?_ (Kp.below (by assumption) (by first | omega | (· simp) | (· (simp; omega))) (by first | omega | (· simp) | (· (simp; omega)))))))
      case rest =>
        obtain ⟨g1, x3a_0, x3a_1A, x3a_1c, x3a_1l, rfl, rfl, B3_1, lb1, HT3a, HD3a, I3_3a, hb3⟩ := hcut
        obtain ⟨W3, hWeq⟩ : ∃ W : World, W = wc := ⟨_, rfl⟩
        subst hWeq
        have hs3 := hb3.size
        have lu1 := blk_lt B3_1
        have B3_0 := (hb3.block g0 (by omega)).trans B2_0
        clear B2_0
        have RA3_0 : (E.agg [.str a0_0, .lst 1 9 a0_1A a0_1c a0_1l]).Re W3 0 w.heap.size := RA2_0.below hb3 (by omega)
        clear RA2_0
        have hB3 : Below w.heap.size w W3 := hB2.trans (hb3.mono (by omega))
        go_upto_region 8 with fail
        go_cut [10] (fun s10 wx => ∃ (g2 : Nat) (x4_0 : ByteArray) (x4_1A : Option Addr) (x4_1c : Nat) (x4_1l : List E), s10 = .pointer (some ⟨g2, 0, none⟩) ∧ wx.heap[g2]? = some (.cells #[.string x4_0, .slice x4_1A x4_1l.length x4_1c] 26 (0, 0)) ∧ W3.heap.size ≤ g2 ∧ g2 ∉ (E.agg [.str x4_0, .lst 1 9 x4_1A x4_1c x4_1l]).fp ∧ Hid ((E.agg [.str x4_0, .lst 1 9 x4_1A x4_1c x4_1l]).Ty Try.prog 26) ∧ Hid ((E.agg [.str x4_0, .lst 1 9 x4_1A x4_1c x4_1l]).d = D0) ∧ Hid ((E.agg [.str x4_0, .lst 1 9 x4_1A x4_1c x4_1l]).Ho wx W3.heap.size wx.heap.size) ∧ Hid (E.agg [.str x4_0, .lst 1 9 x4_1A x4_1c x4_1l]).fp.Nodup ∧ Below W3.heap.size W3 wx)
        case first =>
          have hwW := hB3.size
          have ltW0 : g0 < W3.heap.size := by omega
          clear hs1 lu0 lb0 hs2 hs3 lu1 lb1
          clear B3_1 I3_3a
          have z0_0_0 : W3.cell? ⟨g0, 0, none⟩ = some (.string a0_0) := cell_of B3_0 rfl
          have z0_0_1 : W3.cell? ⟨g0, 1, none⟩ = some (.slice a0_1A a0_1l.length a0_1c) := cell_of B3_0 rfl
          go_wp2_with fail
          go_at_call 7
          (with_reducible change Calls _ _ #[.agg #[.string a0_0, .slice a0_1A a0_1l.length a0_1c]] _ _); refine (toRec_all TA0.out _ (by have h : (E.agg [.str a0_0, .lst 1 9 a0_1A a0_1c a0_1l]).In W3 := E.Re.inn RA3_0 (by omega); exact (by repeat (first | (with_reducible assumption) | (with_reducible refine E.In.drew ?_) | (with_reducible refine E.In.drewN ?_ _) | (with_reducible refine E.In.alloc ?_ _) | (refine E.In.below ?_ (by with_reducible assumption) ?_) | omega | (· simp) | (· (simp; omega))))) (by omega)).mono ?_; rintro e4 w4 ⟨x4, e4h, HD4, ht4, ho4, hn4, hb4⟩; have HT4 := Lib.hid ht4; have HD4 := Lib.hid (HD4.out.trans HDa0.out); obtain ⟨x4_0, x4_1A, x4_1c, x4_1l, rfl, -, -, -⟩ := shape_impl_Rec ht4; obtain rfl : e4 = .returned (.agg #[.string x4_0, .slice x4_1A x4_1l.length x4_1c]) := e4h; have HO4 := Lib.hid ho4; have HN4 := Lib.hid hn4; clear ht4 ho4 hn4; have hz4 := hb4.size; (try simp only [World.size_alloc, World.size_drew, World.heap_drewN, World.size_setCell] at hz4)
          go_wp2_with fail
          go_meet
          refine ⟨_, x4_0, x4_1A, x4_1c, x4_1l, rfl, ?_, ?_, ?_, ?_, ?_, ?_, ?_, ?_⟩
          · (repeat (first | (with_reducible assumption) | (with_reducible refine hp_drew ?_) | (with_reducible refine hp_drewN ?_) | (refine hp_new ?_; first | rfl | (simp; done)) | (with_reducible refine hp_alloc ?_ ?_) | (refine hp_below (by with_reducible assumption) ?_ ?_) | omega | (· simp) | (· (simp; omega))))
          · first | omega | (simp; done) | (simp; omega)
          · (intro hm; have h := HO4.out.lt _ hm; (try simp only [World.size_alloc, World.size_drew, World.heap_drewN, World.size_setCell] at h); omega)
          · exact HT4
          · exact HD4
          · refine E.Ho.fin HO4.out (fun hh => ?_) ?_ ?_
            · (repeat (first | (with_reducible assumption) | (with_reducible refine E.Ho.drew ?_) | (with_reducible refine E.Ho.drewN ?_ _) | (with_reducible refine E.Ho.alloc ?_ ?_ _) | (with_reducible refine E.Ho.setAny ?_ ?_ _) | (refine E.Ho.below ?_ (by with_reducible assumption) ?_) | (first | omega | (dsimp only; omega) | (simp only [World.size_alloc, World.size_drew, World.heap_drewN, World.size_setCell]; omega) | (simp; done) | (simp; omega))))
            · (first | omega | (dsimp only; omega) | (simp only [World.size_alloc, World.size_drew, World.heap_drewN, World.size_setCell]; omega) | (simp; done) | (simp; omega))
            · (first | omega | (dsimp only; omega) | (simp only [World.size_alloc, World.size_drew, World.heap_drewN, World.size_setCell]; omega) | (simp; done) | (simp; omega))
          · exact HN4
          · exact (by repeat (first | (with_reducible refine Below.setCell ?_ (by first | omega | (· simp) | (· (simp; omega))) _) | (with_reducible refine Below.alloc ?_ (by first | omega | (· simp) | (· (simp; omega))) _) | (with_reducible refine Below.drew ?_) | (with_reducible refine bdrewN ?_ _) | (with_reducible exact Below.refl _ _) | (with_reducible assumption) | (with_reducible refine Below.trans ?_ (Below.mono (by assumption) (by first | omega | (· simp) | (· (simp; omega))))) | (with_reducible refine Below.trans ?_ (Kp.below (by assumption) (by first | omega | (· simp) | (· (simp; omega))) (by first | omega | (· simp) | (· (simp; omega)))))))
        case rest =>
          obtain ⟨g2, x4_0, x4_1A, x4_1c, x4_1l, rfl, B4_2, lb2, nb2_4, HT4, HD4, HO4_4, HN4, hb4⟩ := hcut
          obtain ⟨W4, hWeq⟩ : ∃ W : World, W = wc := ⟨_, rfl⟩
          subst hWeq
          have hs4 := hb4.size
          have lu2 := blk_lt B4_2
          have B4_0 := (hb4.block g0 (by omega)).trans B3_0
          clear B3_0
          have B4_1 := (hb4.block g1 (by omega)).trans B3_1
          clear B3_1
          have RA4_0 : (E.agg [.str a0_0, .lst 1 9 a0_1A a0_1c a0_1l]).Re W4 0 w.heap.size := RA3_0.below hb4 (by omega)
          clear RA3_0
          have I4_3a := I3_3a.below hb4 (by omega)
          clear I3_3a
          have hB4 : Below w.heap.size w W4 := hB3.trans (hb4.mono (by omega))
          go_upto_region 9 with fail
          go_cut [11, 12] (fun s11 s12 wx => ∃ (g3 : Nat) (x5a_0 : ByteArray) (x5a_1A : Option Addr) (x5a_1c : Nat) (x5a_1l : List E), s11 = .pointer (some ⟨g3, 0, none⟩) ∧ s12 = .bool (setFD1 D0 a1 a2) ∧ wx.heap[g3]? = some (.cells #[.string x5a_0, .slice x5a_1A x5a_1l.length x5a_1c] 26 (0, 0)) ∧ W4.heap.size ≤ g3 ∧ g3 ∉ (E.agg [.str x5a_0, .lst 1 9 x5a_1A x5a_1c x5a_1l]).fp ∧ Hid ((E.agg [.str x5a_0, .lst 1 9 x5a_1A x5a_1c x5a_1l]).Ty Try.prog 26) ∧ Hid ((E.agg [.str x5a_0, .lst 1 9 x5a_1A x5a_1c x5a_1l]).d = setFD D0 a1 a2) ∧ Hid ((E.agg [.str x5a_0, .lst 1 9 x5a_1A x5a_1c x5a_1l]).Ho wx W4.heap.size wx.heap.size) ∧ Hid (E.agg [.str x5a_0, .lst 1 9 x5a_1A x5a_1c x5a_1l]).fp.Nodup ∧ Below W4.heap.size W4 wx)
          case first =>
            have hwW := hB4.size
            have ltW2 : g2 < W4.heap.size := by omega
            have hiW4 : W4.heap.size ≤ W4.heap.size := by omega
            clear hs1 lu0 lb0 hs2 hs3 lu1 lb1 lu2 lb2 nb2_4
            clear B4_0 B4_1 I4_3a
            have z0_2_0 : W4.cell? ⟨g2, 0, none⟩ = some (.string x4_0) := cell_of B4_2 rfl
            have z0_2_1 : W4.cell? ⟨g2, 1, none⟩ = some (.slice x4_1A x4_1l.length x4_1c) := cell_of B4_2 rfl
            go_wp2_with fail
            go_at_call 8
            refine (implSetField_u HT4.out a1 a2 _ (by have h : (E.agg [.str x4_0, .lst 1 9 x4_1A x4_1c x4_1l]).In W4 := HO4_4.out.inn; exact (by repeat (first | (with_reducible assumption) | (with_reducible refine E.In.drew ?_) | (with_reducible refine E.In.drewN ?_ _) | (with_reducible refine E.In.alloc ?_ _) | (refine E.In.below ?_ (by with_reducible assumption) ?_) | omega | (· simp) | (· (simp; omega))))) (sz_le HD4 hD0) (by omega)).mono ?_; rintro e5 w5 ⟨x5a, e5h, HD5a, ht5a, ho5a, hn5a, hb5⟩; have HD5a : Hid (x5a.d = setFD D0 a1 a2) := (by have h := HD5a.out; rw [HD4.out] at h; exact h); have HT5a := Lib.hid ht5a; obtain ⟨x5a_0, x5a_1A, x5a_1c, x5a_1l, rfl, -, -, -⟩ := shape_impl_Rec ht5a; rw [HD4.out] at e5h; obtain rfl : e5 = .returned (.tuple #[.agg #[.string x5a_0, .slice x5a_1A x5a_1l.length x5a_1c], .bool (setFD1 D0 a1 a2)]) := e5h; have HO5a := Lib.hid ho5a; have HN5a := Lib.hid hn5a; clear ho5a hn5a ht5a; have hz5 := hb5.size; (try simp only [World.size_alloc, World.size_drew, World.heap_drewN, World.size_setCell] at hz5)
            go_wp2_with fail
            go_meet
            refine ⟨_, x5a_0, x5a_1A, x5a_1c, x5a_1l, rfl, rfl, ?_, ?_, ?_, ?_, ?_, ?_, ?_, ?_⟩
            · (repeat (first | (with_reducible assumption) | (with_reducible refine hp_drew ?_) | (with_reducible refine hp_drewN ?_) | (refine hp_new ?_; first | rfl | (simp; done)) | (with_reducible refine hp_alloc ?_ ?_) | (refine hp_below (by with_reducible assumption) ?_ ?_) | omega | (· simp) | (· (simp; omega))))
            · first | omega | (simp; done) | (simp; omega)
            · (intro hm; have h := HO5a.out.lt _ hm; (try simp only [World.size_alloc, World.size_drew, World.heap_drewN, World.size_setCell] at h); omega)
            · exact HT5a
            · exact HD5a
            · refine E.Ho.fin HO5a.out (fun hh => ?_) ?_ ?_
              · (repeat (first | (with_reducible assumption) | (with_reducible refine E.Ho.drew ?_) | (with_reducible refine E.Ho.drewN ?_ _) | (with_reducible refine E.Ho.alloc ?_ ?_ _) | (with_reducible refine E.Ho.setAny ?_ ?_ _) | (refine E.Ho.below ?_ (by with_reducible assumption) ?_) | (first | omega | (dsimp only; omega) | (simp only [World.size_alloc, World.size_drew, World.heap_drewN, World.size_setCell]; omega) | (simp; done) | (simp; omega))))
              · (first | omega | (dsimp only; omega) | (simp only [World.size_alloc, World.size_drew, World.heap_drewN, World.size_setCell]; omega) | (simp; done) | (simp; omega))
              · (first | omega | (dsimp only; omega) | (simp only [World.size_alloc, World.size_drew, World.heap_drewN, World.size_setCell]; omega) | (simp; done) | (simp; omega))
            · exact HN5a
            · exact (by repeat (first | (with_reducible refine Below.setCell ?_ (by first | omega | (· simp) | (· (simp; omega))) _) | (with_reducible refine Below.alloc ?_ (by first | omega | (· simp) | (· (simp; omega))) _) | (with_reducible refine Below.drew ?_) | (with_reducible refine bdrewN ?_ _) | (with_reducible exact Below.refl _ _) | (with_reducible assumption) | (with_reducible refine Below.trans ?_ (Below.mono (by assumption) (by first | omega | (· simp) | (· (simp; omega))))) | (with_reducible refine Below.trans ?_ (Kp.below (by assumption) (by first | omega | (· simp) | (· (simp; omega))) (by first | omega | (· simp) | (· (simp; omega)))))))
          case rest =>
            obtain ⟨g3, x5a_0, x5a_1A, x5a_1c, x5a_1l, rfl, rfl, B5_3, lb3, nb3_5a, HT5a, HD5a, HO5_5a, HN5a, hb5⟩ := hcut
            obtain ⟨W5, hWeq⟩ : ∃ W : World, W = wc := ⟨_, rfl⟩
            subst hWeq
            have hs5 := hb5.size
            have lu3 := blk_lt B5_3
            have B5_0 := (hb5.block g0 (by omega)).trans B4_0
            clear B4_0
            have B5_1 := (hb5.block g1 (by omega)).trans B4_1
            clear B4_1
            have B5_2 := (hb5.block g2 (by omega)).trans B4_2
            clear B4_2
            have RA5_0 : (E.agg [.str a0_0, .lst 1 9 a0_1A a0_1c a0_1l]).Re W5 0 w.heap.size := RA4_0.below hb5 (by omega)
            clear RA4_0
            have I5_3a := I4_3a.below hb5 (by omega)
            clear I4_3a
            have HO5_4 := Lib.hid (HO4_4.out.below hb5 (by omega))
            clear HO4_4
            have hB5 : Below w.heap.size w W5 := hB4.trans (hb5.mono (by omega))
            go_upto_region 10 with fail
            go_cut [51] (fun s51 wx => s51 = .bool false ∧ Below W5.heap.size W5 wx)
            case first =>
              have hwW := hB5.size
              have ltW3 : g3 < W5.heap.size := by omega
              have ltW1 : g1 < W5.heap.size := by omega
              have hiW3a : W3.heap.size ≤ W5.heap.size := by omega
              have hiW5a : W5.heap.size ≤ W5.heap.size := by omega
              clear hs1 lu0 lb0 hs2 lu1 lb1 hs4 lu2 lb2 nb2_4 lu3 lb3 nb3_5a
              clear B5_0 B5_2 HO5_4
              have z0_3_0 : W5.cell? ⟨g3, 0, none⟩ = some (.string x5a_0) := cell_of B5_3 rfl
              have z0_3_1 : W5.cell? ⟨g3, 1, none⟩ = some (.slice x5a_1A x5a_1l.length x5a_1c) := cell_of B5_3 rfl
              have z0_1_0 : W5.cell? ⟨g1, 0, none⟩ = some (.string x3a_0) := cell_of B5_1 rfl
              have z0_1_1 : W5.cell? ⟨g1, 1, none⟩ = some (.slice x3a_1A x3a_1l.length x3a_1c) := cell_of B5_1 rfl
              go_wp2_with fail
              go_at_call 9
              refine (eqRec_all HT5a.out HT3a.out ((show (E.agg [.str x5a_0, .lst 1 9 x5a_1A x5a_1c x5a_1l]).d = setFD D0 a1 a2 from HD5a.out).trans (show (E.agg [.str x3a_0, .lst 1 9 x3a_1A x3a_1c x3a_1l]).d = setFD D0 a1 a2 from HD3a.out).symm) _ (by have h : (E.agg [.str x5a_0, .lst 1 9 x5a_1A x5a_1c x5a_1l]).In W5 := HO5_5a.out.inn; exact (by repeat (first | (with_reducible assumption) | (with_reducible refine E.In.drew ?_) | (with_reducible refine E.In.drewN ?_ _) | (with_reducible refine E.In.alloc ?_ _) | (refine E.In.below ?_ (by with_reducible assumption) ?_) | omega | (· simp) | (· (simp; omega))))) (by have h : (E.agg [.str x3a_0, .lst 1 9 x3a_1A x3a_1c x3a_1l]).In W5 := I5_3a.inn (by omega); exact (by repeat (first | (with_reducible assumption) | (with_reducible refine E.In.drew ?_) | (with_reducible refine E.In.drewN ?_ _) | (with_reducible refine E.In.alloc ?_ _) | (refine E.In.below ?_ (by with_reducible assumption) ?_) | omega | (· simp) | (· (simp; omega)))))).mono ?_; rintro e w6 ⟨rfl, hb6⟩; have hz6 := hb6.size; (try simp only [World.size_alloc, World.size_drew, World.heap_drewN, World.size_setCell] at hz6)
              go_wp2_with fail
              go_meet
              refine ⟨rfl, ?_⟩
              · exact (by repeat (first | (with_reducible refine Below.setCell ?_ (by first | omega | (· simp) | (· (simp; omega))) _) | (with_reducible refine Below.alloc ?_ (by first | omega | (· simp) | (· (simp; omega))) _) | (with_reducible refine Below.drew ?_) | (with_reducible refine bdrewN ?_ _) | (with_reducible exact Below.refl _ _) | (with_reducible assumption) | (with_reducible refine Below.trans ?_ (Below.mono (by assumption) (by first | omega | (· simp) | (· (simp; omega))))) | (with_reducible refine Below.trans ?_ (Kp.below (by assumption) (by first | omega | (· simp) | (· (simp; omega))) (by first | omega | (· simp) | (· (simp; omega)))))))
            case rest =>
              obtain ⟨rfl, hb6⟩ := hcut
              obtain ⟨W6, hWeq⟩ : ∃ W : World, W = wc := ⟨_, rfl⟩
              subst hWeq
              have hs6 := hb6.size
              have B6_0 := (hb6.block g0 (by omega)).trans B5_0
              clear B5_0
              have B6_1 := (hb6.block g1 (by omega)).trans B5_1
              clear B5_1
              have B6_2 := (hb6.block g2 (by omega)).trans B5_2
              clear B5_2
              have B6_3 := (hb6.block g3 (by omega)).trans B5_3
              clear B5_3
              have RA6_0 : (E.agg [.str a0_0, .lst 1 9 a0_1A a0_1c a0_1l]).Re W6 0 w.heap.size := RA5_0.below hb6 (by omega)
              clear RA5_0
              have I6_3a := I5_3a.below hb6 (by omega)
              clear I5_3a
              have HO6_4 := Lib.hid (HO5_4.out.below hb6 (by omega))
              clear HO5_4
              have HO6_5a := Lib.hid (HO5_5a.out.below hb6 (by omega))
              clear HO5_5a
              have hB6 : Below w.heap.size w W6 := hB5.trans (hb6.mono (by omega))
              go_upto_region 12 with fail
              go_cut [56] (fun s56 wx => s56 = .bool false ∧ Below W6.heap.size W6 wx)
              case first =>
                have hwW := hB6.size
                have ltW2 : g2 < W6.heap.size := by omega
                have ltW0 : g0 < W6.heap.size := by omega
                have hiW4 : W4.heap.size ≤ W6.heap.size := by omega
                clear hs1 lu0 lb0 hs2 hs3 lu1 lb1 lu2 lb2 nb2_4 hs5 lu3 lb3 nb3_5a hs6
                clear B6_1 B6_3 I6_3a HO6_5a
                have z0_2_0 : W6.cell? ⟨g2, 0, none⟩ = some (.string x4_0) := cell_of B6_2 rfl
                have z0_2_1 : W6.cell? ⟨g2, 1, none⟩ = some (.slice x4_1A x4_1l.length x4_1c) := cell_of B6_2 rfl
                have z0_0_0 : W6.cell? ⟨g0, 0, none⟩ = some (.string a0_0) := cell_of B6_0 rfl
                have z0_0_1 : W6.cell? ⟨g0, 1, none⟩ = some (.slice a0_1A a0_1l.length a0_1c) := cell_of B6_0 rfl
                go_region_held3 (fun w' => w'.cell? ⟨g2, 0, none⟩ = some (.string x4_0) ∧ w'.cell? ⟨g2, 1, none⟩ = some (.slice x4_1A x4_1l.length x4_1c) ∧ w'.cell? ⟨g0, 0, none⟩ = some (.string a0_0) ∧ w'.cell? ⟨g0, 1, none⟩ = some (.slice a0_1A a0_1l.length a0_1c))
                  (first | exact ⟨z0_2_0, z0_2_1, z0_0_0, z0_0_1⟩ | (refine ⟨?_, ?_, ?_, ?_⟩ <;> (repeat (first | (with_reducible assumption) | (with_reducible refine cell_set_ne ?_ ?_) | (with_reducible refine cell_drew ?_) | (with_reducible refine cell_drewN ?_) | (with_reducible refine cell_alloc ?_ ?_) | omega | (simp; done) | (simp; omega)))) | skip)
                  ((first
                    | (go_at_call 7; (with_reducible change Calls _ _ #[.agg #[.string a0_0, .slice a0_1A a0_1l.length a0_1c]] _ _); refine (toRec_all TA0.out _ (by have h : (E.agg [.str a0_0, .lst 1 9 a0_1A a0_1c a0_1l]).In W6 := E.Re.inn RA6_0 (by omega); exact (by repeat (first | (with_reducible assumption) | (with_reducible refine E.In.drew ?_) | (with_reducible refine E.In.drewN ?_ _) | (with_reducible refine E.In.alloc ?_ _) | (refine E.In.below ?_ (by with_reducible assumption) ?_) | omega | (· simp) | (· (simp; omega))))) (by omega)).mono ?_; rintro e7 w7 ⟨x7, e7h, HD7, ht7, ho7, hn7, hb7⟩; have HT7 := Lib.hid ht7; have HD7 := Lib.hid (HD7.out.trans HDa0.out); obtain ⟨x7_0, x7_1A, x7_1c, x7_1l, rfl, -, -, -⟩ := shape_impl_Rec ht7; obtain rfl : e7 = .returned (.agg #[.string x7_0, .slice x7_1A x7_1l.length x7_1c]) := e7h; have HO7 := Lib.hid ho7; have HN7 := Lib.hid hn7; clear ht7 ho7 hn7; have hz7 := hb7.size; (try simp only [World.size_alloc, World.size_drew, World.heap_drewN, World.size_setCell] at hz7); have z7_2_0 : w7.cell? ⟨g2, 0, none⟩ = some (.string x4_0) := cell_of (by exact (by repeat (first | (with_reducible assumption) | (with_reducible refine hp_drew ?_) | (with_reducible refine hp_drewN ?_) | (with_reducible refine hp_alloc ?_ ?_) | (refine hp_below (by with_reducible assumption) ?_ ?_) | omega | (· simp) | (· (simp; omega)))) : w7.heap[g2]? = some (.cells #[.string x4_0, .slice x4_1A x4_1l.length x4_1c] 26 (0, 0))) rfl; have z7_2_1 : w7.cell? ⟨g2, 1, none⟩ = some (.slice x4_1A x4_1l.length x4_1c) := cell_of (by exact (by repeat (first | (with_reducible assumption) | (with_reducible refine hp_drew ?_) | (with_reducible refine hp_drewN ?_) | (with_reducible refine hp_alloc ?_ ?_) | (refine hp_below (by with_reducible assumption) ?_ ?_) | omega | (· simp) | (· (simp; omega)))) : w7.heap[g2]? = some (.cells #[.string x4_0, .slice x4_1A x4_1l.length x4_1c] 26 (0, 0))) rfl; have z7_0_0 : w7.cell? ⟨g0, 0, none⟩ = some (.string a0_0) := cell_of (by exact (by repeat (first | (with_reducible assumption) | (with_reducible refine hp_drew ?_) | (with_reducible refine hp_drewN ?_) | (with_reducible refine hp_alloc ?_ ?_) | (refine hp_below (by with_reducible assumption) ?_ ?_) | omega | (· simp) | (· (simp; omega)))) : w7.heap[g0]? = some (.cells #[.string a0_0, .slice a0_1A a0_1l.length a0_1c] 24 (0, 0))) rfl; have z7_0_1 : w7.cell? ⟨g0, 1, none⟩ = some (.slice a0_1A a0_1l.length a0_1c) := cell_of (by exact (by repeat (first | (with_reducible assumption) | (with_reducible refine hp_drew ?_) | (with_reducible refine hp_drewN ?_) | (with_reducible refine hp_alloc ?_ ?_) | (refine hp_below (by with_reducible assumption) ?_ ?_) | omega | (· simp) | (· (simp; omega)))) : w7.heap[g0]? = some (.cells #[.string a0_0, .slice a0_1A a0_1l.length a0_1c] 24 (0, 0))) rfl)
                    | (go_at_call 9; refine (eqRec_all HT4.out HT7.out ((show (E.agg [.str x4_0, .lst 1 9 x4_1A x4_1c x4_1l]).d = D0 from HD4.out).trans (show (E.agg [.str x7_0, .lst 1 9 x7_1A x7_1c x7_1l]).d = D0 from HD7.out).symm) _ (by have h : (E.agg [.str x4_0, .lst 1 9 x4_1A x4_1c x4_1l]).In W6 := HO6_4.out.inn; exact (by repeat (first | (with_reducible assumption) | (with_reducible refine E.In.drew ?_) | (with_reducible refine E.In.drewN ?_ _) | (with_reducible refine E.In.alloc ?_ _) | (refine E.In.below ?_ (by with_reducible assumption) ?_) | omega | (· simp) | (· (simp; omega))))) (by have h := HO7.out.inn; exact (by repeat (first | (with_reducible assumption) | (with_reducible refine E.In.drew ?_) | (with_reducible refine E.In.drewN ?_ _) | (with_reducible refine E.In.alloc ?_ _) | (refine E.In.below ?_ (by with_reducible assumption) ?_) | omega | (· simp) | (· (simp; omega)))))).mono ?_; rintro e w8 ⟨rfl, hb8⟩; have hz8 := hb8.size; (try simp only [World.size_alloc, World.size_drew, World.heap_drewN, World.size_setCell] at hz8); have z8_2_0 : w8.cell? ⟨g2, 0, none⟩ = some (.string x4_0) := cell_of (by exact (by repeat (first | (with_reducible assumption) | (with_reducible refine hp_drew ?_) | (with_reducible refine hp_drewN ?_) | (with_reducible refine hp_alloc ?_ ?_) | (refine hp_below (by with_reducible assumption) ?_ ?_) | omega | (· simp) | (· (simp; omega)))) : w8.heap[g2]? = some (.cells #[.string x4_0, .slice x4_1A x4_1l.length x4_1c] 26 (0, 0))) rfl; have z8_2_1 : w8.cell? ⟨g2, 1, none⟩ = some (.slice x4_1A x4_1l.length x4_1c) := cell_of (by exact (by repeat (first | (with_reducible assumption) | (with_reducible refine hp_drew ?_) | (with_reducible refine hp_drewN ?_) | (with_reducible refine hp_alloc ?_ ?_) | (refine hp_below (by with_reducible assumption) ?_ ?_) | omega | (· simp) | (· (simp; omega)))) : w8.heap[g2]? = some (.cells #[.string x4_0, .slice x4_1A x4_1l.length x4_1c] 26 (0, 0))) rfl; have z8_0_0 : w8.cell? ⟨g0, 0, none⟩ = some (.string a0_0) := cell_of (by exact (by repeat (first | (with_reducible assumption) | (with_reducible refine hp_drew ?_) | (with_reducible refine hp_drewN ?_) | (with_reducible refine hp_alloc ?_ ?_) | (refine hp_below (by with_reducible assumption) ?_ ?_) | omega | (· simp) | (· (simp; omega)))) : w8.heap[g0]? = some (.cells #[.string a0_0, .slice a0_1A a0_1l.length a0_1c] 24 (0, 0))) rfl; have z8_0_1 : w8.cell? ⟨g0, 1, none⟩ = some (.slice a0_1A a0_1l.length a0_1c) := cell_of (by exact (by repeat (first | (with_reducible assumption) | (with_reducible refine hp_drew ?_) | (with_reducible refine hp_drewN ?_) | (with_reducible refine hp_alloc ?_ ?_) | (refine hp_below (by with_reducible assumption) ?_ ?_) | omega | (· simp) | (· (simp; omega)))) : w8.heap[g0]? = some (.cells #[.string a0_0, .slice a0_1A a0_1l.length a0_1c] 24 (0, 0))) rfl)))
                all_goals
                  go_wp2_with fail
                  go_meet
                  refine ⟨rfl, ?_⟩
                  · exact (by repeat (first | (with_reducible refine Below.setCell ?_ (by first | omega | (· simp) | (· (simp; omega))) _) | (with_reducible refine Below.alloc ?_ (by first | omega | (· simp) | (· (simp; omega))) _) | (with_reducible refine Below.drew ?_) | (with_reducible refine bdrewN ?_ _) | (with_reducible exact Below.refl _ _) | (with_reducible assumption) | (with_reducible refine Below.trans ?_ (Below.mono (by assumption) (by first | omega | (· simp) | (· (simp; omega))))) | (with_reducible refine Below.trans ?_ (Kp.below (by assumption) (by first | omega | (· simp) | (· (simp; omega))) (by first | omega | (· simp) | (· (simp; omega)))))))
              case rest =>
                obtain ⟨rfl, hb7⟩ := hcut
                obtain ⟨W7, hWeq⟩ : ∃ W : World, W = wc := ⟨_, rfl⟩
                subst hWeq
                have hs7 := hb7.size
                have B7_0 := (hb7.block g0 (by omega)).trans B6_0
                clear B6_0
                have B7_1 := (hb7.block g1 (by omega)).trans B6_1
                clear B6_1
                have B7_2 := (hb7.block g2 (by omega)).trans B6_2
                clear B6_2
                have B7_3 := (hb7.block g3 (by omega)).trans B6_3
                clear B6_3
                have RA7_0 : (E.agg [.str a0_0, .lst 1 9 a0_1A a0_1c a0_1l]).Re W7 0 w.heap.size := RA6_0.below hb7 (by omega)
                clear RA6_0
                have I7_3a := I6_3a.below hb7 (by omega)
                clear I6_3a
                have HO7_4 := Lib.hid (HO6_4.out.below hb7 (by omega))
                clear HO6_4
                have HO7_5a := Lib.hid (HO6_5a.out.below hb7 (by omega))
                clear HO6_5a
                have hB7 : Below w.heap.size w W7 := hB6.trans (hb7.mono (by omega))
                go_upto_region 15 with fail
                go_cut [13] (fun s13 wx => s13 = .int .i64 (1 + ((E.agg [.str x4_0, .lst 1 9 x4_1A x4_1c x4_1l]).cnt : Int)) ∧ Hid (((E.agg [.str x4_0, .lst 1 9 x4_1A x4_1c x4_1l]).mk0 1).Ho wx W3.heap.size W4.heap.size) ∧ Hid (Fr (E.agg [.str x4_0, .lst 1 9 x4_1A x4_1c x4_1l]).fp W7 wx))
                case first =>
                  have hwW := hB7.size
                  have ltW2 : g2 < W7.heap.size := by omega
                  have hiW4 : W4.heap.size ≤ W7.heap.size := by omega
                  clear hs1 lu0 lb0 hs2 hs3 lu1 lb1 lu2 lb2 nb2_4 hs5 lu3 lb3 nb3_5a hs6 hs7
                  clear B7_0 B7_1 B7_3 I7_3a HO7_5a
                  have z0_2_0 : W7.cell? ⟨g2, 0, none⟩ = some (.string x4_0) := cell_of B7_2 rfl
                  have z0_2_1 : W7.cell? ⟨g2, 1, none⟩ = some (.slice x4_1A x4_1l.length x4_1c) := cell_of B7_2 rfl
                  go_wp2_with fail
                  go_at_call 10
                  refine (markRec_all HT4.out _ _ _ _ HO7_4.out HN4.out (by omega) (by omega) (by have := cnt_of HT4.out HD4 (by omega); omega)).mono ?_; rintro e w9 ⟨rfl, HOm9, hf9⟩
                  go_wp2_with fail
                  go_meet
                  refine ⟨rfl, ?_, ?_⟩
                  · exact HOm9
                  · exact hf9
                case rest =>
                  obtain ⟨rfl, HOm8_4, hF8⟩ := hcut
                  obtain ⟨W8, hWeq⟩ : ∃ W : World, W = wc := ⟨_, rfl⟩
                  subst hWeq
                  have hs8 := hF8.out.size
                  have B8_0 := (hF8.out.block g0 (by omega) (fun hm => by have := HO7_4.out.lt _ hm; omega)).trans B7_0
                  clear B7_0
                  have B8_1 := (hF8.out.block g1 (by omega) (fun hm => by have := HO7_4.out.lt _ hm; omega)).trans B7_1
                  clear B7_1
                  have B8_2 := (hF8.out.block g2 (by omega) (nb2_4)).trans B7_2
                  clear B7_2
                  have B8_3 := (hF8.out.block g3 (by omega) (fun hm => by have := HO7_4.out.lt _ hm; omega)).trans B7_3
                  clear B7_3
                  have RA8_0 : (E.agg [.str a0_0, .lst 1 9 a0_1A a0_1c a0_1l]).Re W8 0 w.heap.size := RA7_0.kp (lo' := w.heap.size) (hi' := W7.heap.size) (hF8.out.kp (fun b hb => by have := HO7_4.out.lt b hb; omega)) (.inl (Nat.le_refl _))
                  clear RA7_0
                  have I8_3a := I7_3a.kp (lo' := W3.heap.size) (hi' := W4.heap.size) (hF8.out.kp (fun b hb => by have := HO7_4.out.lt b hb; omega)) (.inl (by omega))
                  clear I7_3a
                  have HO8_5a := Lib.hid (HO7_5a.out.fr hF8.out (fun b hb hm => by have h1 := HO7_5a.out.lt b hb; have h2 := HO7_4.out.lt b hm; omega))
                  clear HO7_5a
                  have hB8 : Below w.heap.size w W8 := hB7.trans (hF8.out.below (fun b hb => by have := HO7_4.out.lt b hb; omega) (by omega))
                  go_upto_region 16 with fail
                  go_cut [72] (fun s72 wx => s72 = .bool false ∧ Below W8.heap.size W8 wx)
                  case first =>
                    have hwW := hB8.size
                    have ltW3 : g3 < W8.heap.size := by omega
                    have ltW1 : g1 < W8.heap.size := by omega
                    have hiW3a : W3.heap.size ≤ W8.heap.size := by omega
                    have hiW5a : W5.heap.size ≤ W8.heap.size := by omega
                    clear hs1 lu0 lb0 hs2 lu1 lb1 hs4 lu2 lb2 nb2_4 lu3 lb3 nb3_5a hs6 hs7 hs8
                    clear B8_0 B8_2 HOm8_4
                    have z0_3_0 : W8.cell? ⟨g3, 0, none⟩ = some (.string x5a_0) := cell_of B8_3 rfl
                    have z0_3_1 : W8.cell? ⟨g3, 1, none⟩ = some (.slice x5a_1A x5a_1l.length x5a_1c) := cell_of B8_3 rfl
                    have z0_1_0 : W8.cell? ⟨g1, 0, none⟩ = some (.string x3a_0) := cell_of B8_1 rfl
                    have z0_1_1 : W8.cell? ⟨g1, 1, none⟩ = some (.slice x3a_1A x3a_1l.length x3a_1c) := cell_of B8_1 rfl
                    go_wp2_with fail
                    go_at_call 9
                    refine (eqRec_all HT5a.out HT3a.out ((show (E.agg [.str x5a_0, .lst 1 9 x5a_1A x5a_1c x5a_1l]).d = setFD D0 a1 a2 from HD5a.out).trans (show (E.agg [.str x3a_0, .lst 1 9 x3a_1A x3a_1c x3a_1l]).d = setFD D0 a1 a2 from HD3a.out).symm) _ (by have h : (E.agg [.str x5a_0, .lst 1 9 x5a_1A x5a_1c x5a_1l]).In W8 := HO8_5a.out.inn; exact (by repeat (first | (with_reducible assumption) | (with_reducible refine E.In.drew ?_) | (with_reducible refine E.In.drewN ?_ _) | (with_reducible refine E.In.alloc ?_ _) | (refine E.In.below ?_ (by with_reducible assumption) ?_) | omega | (· simp) | (· (simp; omega))))) (by have h : (E.agg [.str x3a_0, .lst 1 9 x3a_1A x3a_1c x3a_1l]).In W8 := I8_3a.inn (by omega); exact (by repeat (first | (with_reducible assumption) | (with_reducible refine E.In.drew ?_) | (with_reducible refine E.In.drewN ?_ _) | (with_reducible refine E.In.alloc ?_ _) | (refine E.In.below ?_ (by with_reducible assumption) ?_) | omega | (· simp) | (· (simp; omega)))))).mono ?_; rintro e w10 ⟨rfl, hb10⟩; have hz10 := hb10.size; (try simp only [World.size_alloc, World.size_drew, World.heap_drewN, World.size_setCell] at hz10)
                    go_wp2_with fail
                    go_meet
                    refine ⟨rfl, ?_⟩
                    · exact (by repeat (first | (with_reducible refine Below.setCell ?_ (by first | omega | (· simp) | (· (simp; omega))) _) | (with_reducible refine Below.alloc ?_ (by first | omega | (· simp) | (· (simp; omega))) _) | (with_reducible refine Below.drew ?_) | (with_reducible refine bdrewN ?_ _) | (with_reducible exact Below.refl _ _) | (with_reducible assumption) | (with_reducible refine Below.trans ?_ (Below.mono (by assumption) (by first | omega | (· simp) | (· (simp; omega))))) | (with_reducible refine Below.trans ?_ (Kp.below (by assumption) (by first | omega | (· simp) | (· (simp; omega))) (by first | omega | (· simp) | (· (simp; omega)))))))
                  case rest =>
                    obtain ⟨rfl, hb9⟩ := hcut
                    obtain ⟨W9, hWeq⟩ : ∃ W : World, W = wc := ⟨_, rfl⟩
                    subst hWeq
                    have hs9 := hb9.size
                    have B9_0 := (hb9.block g0 (by omega)).trans B8_0
                    clear B8_0
                    have B9_1 := (hb9.block g1 (by omega)).trans B8_1
                    clear B8_1
                    have B9_2 := (hb9.block g2 (by omega)).trans B8_2
                    clear B8_2
                    have B9_3 := (hb9.block g3 (by omega)).trans B8_3
                    clear B8_3
                    have RA9_0 : (E.agg [.str a0_0, .lst 1 9 a0_1A a0_1c a0_1l]).Re W9 0 w.heap.size := RA8_0.below hb9 (by omega)
                    clear RA8_0
                    have I9_3a := I8_3a.below hb9 (by omega)
                    clear I8_3a
                    have HOm9_4 := Lib.hid (HOm8_4.out.below hb9 (by omega))
                    clear HOm8_4
                    have HO9_5a := Lib.hid (HO8_5a.out.below hb9 (by omega))
                    clear HO8_5a
                    have hB9 : Below w.heap.size w W9 := hB8.trans (hb9.mono (by omega))
                    go_upto_region 19 with fail
                    go_cut [14] (fun s14 wx => s14 = .int .i64 (1 + ((E.agg [.str x5a_0, .lst 1 9 x5a_1A x5a_1c x5a_1l]).cnt : Int)) ∧ Hid (((E.agg [.str x5a_0, .lst 1 9 x5a_1A x5a_1c x5a_1l]).mk0 1).Ho wx W4.heap.size W5.heap.size) ∧ Hid (Fr (E.agg [.str x5a_0, .lst 1 9 x5a_1A x5a_1c x5a_1l]).fp W9 wx))
                    case first =>
                      have hwW := hB9.size
                      have ltW3 : g3 < W9.heap.size := by omega
                      have hiW5a : W5.heap.size ≤ W9.heap.size := by omega
                      clear hs1 lu0 lb0 hs2 hs3 lu1 lb1 hs4 lu2 lb2 nb2_4 lu3 lb3 nb3_5a hs6 hs7 hs8 hs9
                      clear B9_0 B9_1 B9_2 I9_3a HOm9_4
                      have z0_3_0 : W9.cell? ⟨g3, 0, none⟩ = some (.string x5a_0) := cell_of B9_3 rfl
                      have z0_3_1 : W9.cell? ⟨g3, 1, none⟩ = some (.slice x5a_1A x5a_1l.length x5a_1c) := cell_of B9_3 rfl
                      go_wp2_with fail
                      go_at_call 10
                      refine (markRec_all HT5a.out _ _ _ _ HO9_5a.out HN5a.out (by omega) (by omega) (by have := cnt_of HT5a.out HD5a (setFD_sz hD0 (by omega)); omega)).mono ?_; rintro e w11 ⟨rfl, HOm11, hf11⟩
                      go_wp2_with fail
                      go_meet
                      refine ⟨rfl, ?_, ?_⟩
                      · exact HOm11
                      · exact hf11
                    case rest =>
                      obtain ⟨rfl, HOm10_5a, hF10⟩ := hcut
                      obtain ⟨W10, hWeq⟩ : ∃ W : World, W = wc := ⟨_, rfl⟩
                      subst hWeq
                      have hs10 := hF10.out.size
                      have B10_0 := (hF10.out.block g0 (by omega) (fun hm => by have := HO9_5a.out.lt _ hm; omega)).trans B9_0
                      clear B9_0
                      have B10_1 := (hF10.out.block g1 (by omega) (fun hm => by have := HO9_5a.out.lt _ hm; omega)).trans B9_1
                      clear B9_1
                      have B10_2 := (hF10.out.block g2 (by omega) (fun hm => by have := HO9_5a.out.lt _ hm; omega)).trans B9_2
                      clear B9_2
                      have B10_3 := (hF10.out.block g3 (by omega) (nb3_5a)).trans B9_3
                      clear B9_3
                      have RA10_0 : (E.agg [.str a0_0, .lst 1 9 a0_1A a0_1c a0_1l]).Re W10 0 w.heap.size := RA9_0.kp (lo' := w.heap.size) (hi' := W9.heap.size) (hF10.out.kp (fun b hb => by have := HO9_5a.out.lt b hb; omega)) (.inl (Nat.le_refl _))
                      clear RA9_0
                      have I10_3a := I9_3a.kp (lo' := W4.heap.size) (hi' := W5.heap.size) (hF10.out.kp (fun b hb => by have := HO9_5a.out.lt b hb; omega)) (.inl (by omega))
                      clear I9_3a
                      have hB10 : Below w.heap.size w W10 := hB9.trans (hF10.out.below (fun b hb => by have := HO9_5a.out.lt b hb; omega) (by omega))
                      go_upto_region 21 with fail
                      go_cut [15] (fun s15 wx => s15 = .int .i64 (1 + ((E.agg [.str x5a_0, .lst 1 9 x5a_1A x5a_1c x5a_1l]).cnt : Int)) ∧ Below W10.heap.size W10 wx)
                      case first =>
                        have hwW := hB10.size
                        have ltW3 : g3 < W10.heap.size := by omega
                        have hiW5a : W5.heap.size ≤ W10.heap.size := by omega
                        clear hs1 lu0 lb0 hs2 hs3 lu1 lb1 hs4 lu2 lb2 nb2_4 lu3 lb3 nb3_5a hs6 hs7 hs8 hs9 hs10
                        clear B10_0 B10_1 B10_2 I10_3a
                        have z0_3_0 : W10.cell? ⟨g3, 0, none⟩ = some (.string x5a_0) := cell_of B10_3 rfl
                        have z0_3_1 : W10.cell? ⟨g3, 1, none⟩ = some (.slice x5a_1A x5a_1l.length x5a_1c) := cell_of B10_3 rfl
                        go_wp2_with fail
                        go_at_call 11
                        refine (heldRec_all HT5a.out _ _ (by have h : ((E.agg [.str x5a_0, .lst 1 9 x5a_1A x5a_1c x5a_1l]).mk0 1).In W10 := HOm10_5a.out.inn; exact (by repeat (first | (with_reducible assumption) | (with_reducible refine E.In.drew ?_) | (with_reducible refine E.In.drewN ?_ _) | (with_reducible refine E.In.alloc ?_ _) | (refine E.In.below ?_ (by with_reducible assumption) ?_) | omega | (· simp) | (· (simp; omega))))) (by omega) (by have := cnt_of HT5a.out HD5a (setFD_sz hD0 (by omega)); omega)).mono ?_; rintro e w12 ⟨rfl, hb12⟩
                        go_wp2_with fail
                        go_meet
                        refine ⟨rfl, ?_⟩
                        · exact (by repeat (first | (with_reducible refine Below.setCell ?_ (by first | omega | (· simp) | (· (simp; omega))) _) | (with_reducible refine Below.alloc ?_ (by first | omega | (· simp) | (· (simp; omega))) _) | (with_reducible refine Below.drew ?_) | (with_reducible refine bdrewN ?_ _) | (with_reducible exact Below.refl _ _) | (with_reducible assumption) | (with_reducible refine Below.trans ?_ (Below.mono (by assumption) (by first | omega | (· simp) | (· (simp; omega))))) | (with_reducible refine Below.trans ?_ (Kp.below (by assumption) (by first | omega | (· simp) | (· (simp; omega))) (by first | omega | (· simp) | (· (simp; omega)))))))
                      case rest =>
                        obtain ⟨rfl, hb11⟩ := hcut
                        obtain ⟨W11, hWeq⟩ : ∃ W : World, W = wc := ⟨_, rfl⟩
                        subst hWeq
                        have hs11 := hb11.size
                        have B11_0 := (hb11.block g0 (by omega)).trans B10_0
                        clear B10_0
                        have B11_1 := (hb11.block g1 (by omega)).trans B10_1
                        clear B10_1
                        have B11_2 := (hb11.block g2 (by omega)).trans B10_2
                        clear B10_2
                        have B11_3 := (hb11.block g3 (by omega)).trans B10_3
                        clear B10_3
                        have RA11_0 : (E.agg [.str a0_0, .lst 1 9 a0_1A a0_1c a0_1l]).Re W11 0 w.heap.size := RA10_0.below hb11 (by omega)
                        clear RA10_0
                        have I11_3a := I10_3a.below hb11 (by omega)
                        clear I10_3a
                        have HOm11_5a := Lib.hid (HOm10_5a.out.below hb11 (by omega))
                        clear HOm10_5a
                        have hB11 : Below w.heap.size w W11 := hB10.trans (hb11.mono (by omega))
                        go_upto_region 26 with fail
                        go_cut [16, 17] (fun s16 s17 wx => ∃ (g4 : Nat) (x14a_0 : ByteArray) (x14a_1A : Option Addr) (x14a_1c : Nat) (x14a_1l : List E), s16 = .pointer (some ⟨g4, 0, none⟩) ∧ s17 = .bool (setFD1 D0 a1 a2) ∧ wx.heap[g4]? = some (.cells #[.string x14a_0, .slice x14a_1A x14a_1l.length x14a_1c] 26 (0, 0)) ∧ W11.heap.size ≤ g4 ∧ g4 ∉ (E.agg [.str x14a_0, .lst 1 9 x14a_1A x14a_1c x14a_1l]).fp ∧ Hid ((E.agg [.str x14a_0, .lst 1 9 x14a_1A x14a_1c x14a_1l]).Ty Try.prog 26) ∧ Hid ((E.agg [.str x14a_0, .lst 1 9 x14a_1A x14a_1c x14a_1l]).d = setFD D0 a1 a2) ∧ Hid ((E.agg [.str x14a_0, .lst 1 9 x14a_1A x14a_1c x14a_1l]).Ho wx W11.heap.size wx.heap.size) ∧ Hid (E.agg [.str x14a_0, .lst 1 9 x14a_1A x14a_1c x14a_1l]).fp.Nodup ∧ Below W11.heap.size W11 wx)
                        case first =>
                          have hwW := hB11.size
                          have ltW0 : g0 < W11.heap.size := by omega
                          clear hs1 lu0 lb0 hs2 hs3 lu1 lb1 hs4 lu2 lb2 nb2_4 hs5 lu3 lb3 nb3_5a hs6 hs7 hs8 hs9 hs10 hs11
                          clear B11_1 B11_2 B11_3 I11_3a HOm11_5a
                          have z0_0_0 : W11.cell? ⟨g0, 0, none⟩ = some (.string a0_0) := cell_of B11_0 rfl
                          have z0_0_1 : W11.cell? ⟨g0, 1, none⟩ = some (.slice a0_1A a0_1l.length a0_1c) := cell_of B11_0 rfl
                          go_wp2_with fail
                          go_at_call 7
                          (with_reducible change Calls _ _ #[.agg #[.string a0_0, .slice a0_1A a0_1l.length a0_1c]] _ _); refine (toRec_all TA0.out _ (by have h : (E.agg [.str a0_0, .lst 1 9 a0_1A a0_1c a0_1l]).In W11 := E.Re.inn RA11_0 (by omega); exact (by repeat (first | (with_reducible assumption) | (with_reducible refine E.In.drew ?_) | (with_reducible refine E.In.drewN ?_ _) | (with_reducible refine E.In.alloc ?_ _) | (refine E.In.below ?_ (by with_reducible assumption) ?_) | omega | (· simp) | (· (simp; omega))))) (by omega)).mono ?_; rintro e13 w13 ⟨x13, e13h, HD13, ht13, ho13, hn13, hb13⟩; have HT13 := Lib.hid ht13; have HD13 := Lib.hid (HD13.out.trans HDa0.out); obtain ⟨x13_0, x13_1A, x13_1c, x13_1l, rfl, -, -, -⟩ := shape_impl_Rec ht13; obtain rfl : e13 = .returned (.agg #[.string x13_0, .slice x13_1A x13_1l.length x13_1c]) := e13h; have HO13 := Lib.hid ho13; have HN13 := Lib.hid hn13; clear ht13 ho13 hn13; have hz13 := hb13.size; (try simp only [World.size_alloc, World.size_drew, World.heap_drewN, World.size_setCell] at hz13)
                          have z13_0_0 : w13.cell? ⟨g0, 0, none⟩ = some (.string a0_0) := cell_of (by exact (by repeat (first | (with_reducible assumption) | (with_reducible refine hp_drew ?_) | (with_reducible refine hp_drewN ?_) | (with_reducible refine hp_alloc ?_ ?_) | (refine hp_below (by with_reducible assumption) ?_ ?_) | omega | (· simp) | (· (simp; omega)))) : w13.heap[g0]? = some (.cells #[.string a0_0, .slice a0_1A a0_1l.length a0_1c] 24 (0, 0))) rfl
                          have z13_0_1 : w13.cell? ⟨g0, 1, none⟩ = some (.slice a0_1A a0_1l.length a0_1c) := cell_of (by exact (by repeat (first | (with_reducible assumption) | (with_reducible refine hp_drew ?_) | (with_reducible refine hp_drewN ?_) | (with_reducible refine hp_alloc ?_ ?_) | (refine hp_below (by with_reducible assumption) ?_ ?_) | omega | (· simp) | (· (simp; omega)))) : w13.heap[g0]? = some (.cells #[.string a0_0, .slice a0_1A a0_1l.length a0_1c] 24 (0, 0))) rfl
                          go_wp2_with fail
                          go_at_call 8
                          refine (implSetField_u HT13.out a1 a2 _ (by have h := HO13.out.inn; exact (by repeat (first | (with_reducible assumption) | (with_reducible refine E.In.drew ?_) | (with_reducible refine E.In.drewN ?_ _) | (with_reducible refine E.In.alloc ?_ _) | (refine E.In.below ?_ (by with_reducible assumption) ?_) | omega | (· simp) | (· (simp; omega))))) (sz_le HD13 hD0) (by omega)).mono ?_; rintro e14 w14 ⟨x14a, e14h, HD14a, ht14a, ho14a, hn14a, hb14⟩; have HD14a : Hid (x14a.d = setFD D0 a1 a2) := (by have h := HD14a.out; rw [HD13.out] at h; exact h); have HT14a := Lib.hid ht14a; obtain ⟨x14a_0, x14a_1A, x14a_1c, x14a_1l, rfl, -, -, -⟩ := shape_impl_Rec ht14a; rw [HD13.out] at e14h; obtain rfl : e14 = .returned (.tuple #[.agg #[.string x14a_0, .slice x14a_1A x14a_1l.length x14a_1c], .bool (setFD1 D0 a1 a2)]) := e14h; have HO14a := Lib.hid ho14a; have HN14a := Lib.hid hn14a; clear ho14a hn14a ht14a; have hz14 := hb14.size; (try simp only [World.size_alloc, World.size_drew, World.heap_drewN, World.size_setCell] at hz14)
                          have z14_0_0 : w14.cell? ⟨g0, 0, none⟩ = some (.string a0_0) := cell_of (by exact (by repeat (first | (with_reducible assumption) | (with_reducible refine hp_drew ?_) | (with_reducible refine hp_drewN ?_) | (with_reducible refine hp_alloc ?_ ?_) | (refine hp_below (by with_reducible assumption) ?_ ?_) | omega | (· simp) | (· (simp; omega)))) : w14.heap[g0]? = some (.cells #[.string a0_0, .slice a0_1A a0_1l.length a0_1c] 24 (0, 0))) rfl
                          have z14_0_1 : w14.cell? ⟨g0, 1, none⟩ = some (.slice a0_1A a0_1l.length a0_1c) := cell_of (by exact (by repeat (first | (with_reducible assumption) | (with_reducible refine hp_drew ?_) | (with_reducible refine hp_drewN ?_) | (with_reducible refine hp_alloc ?_ ?_) | (refine hp_below (by with_reducible assumption) ?_ ?_) | omega | (· simp) | (· (simp; omega)))) : w14.heap[g0]? = some (.cells #[.string a0_0, .slice a0_1A a0_1l.length a0_1c] 24 (0, 0))) rfl
                          go_wp2_with fail
                          go_meet
                          refine ⟨_, x14a_0, x14a_1A, x14a_1c, x14a_1l, rfl, rfl, ?_, ?_, ?_, ?_, ?_, ?_, ?_, ?_⟩
                          · (repeat (first | (with_reducible assumption) | (with_reducible refine hp_drew ?_) | (with_reducible refine hp_drewN ?_) | (refine hp_new ?_; first | rfl | (simp; done)) | (with_reducible refine hp_alloc ?_ ?_) | (refine hp_below (by with_reducible assumption) ?_ ?_) | omega | (· simp) | (· (simp; omega))))
                          · first | omega | (simp; done) | (simp; omega)
                          · (intro hm; have h := HO14a.out.lt _ hm; (try simp only [World.size_alloc, World.size_drew, World.heap_drewN, World.size_setCell] at h); omega)
                          · exact HT14a
                          · exact HD14a
                          · refine E.Ho.fin HO14a.out (fun hh => ?_) ?_ ?_
                            · (repeat (first | (with_reducible assumption) | (with_reducible refine E.Ho.drew ?_) | (with_reducible refine E.Ho.drewN ?_ _) | (with_reducible refine E.Ho.alloc ?_ ?_ _) | (with_reducible refine E.Ho.setAny ?_ ?_ _) | (refine E.Ho.below ?_ (by with_reducible assumption) ?_) | (first | omega | (dsimp only; omega) | (simp only [World.size_alloc, World.size_drew, World.heap_drewN, World.size_setCell]; omega) | (simp; done) | (simp; omega))))
                            · (first | omega | (dsimp only; omega) | (simp only [World.size_alloc, World.size_drew, World.heap_drewN, World.size_setCell]; omega) | (simp; done) | (simp; omega))
                            · (first | omega | (dsimp only; omega) | (simp only [World.size_alloc, World.size_drew, World.heap_drewN, World.size_setCell]; omega) | (simp; done) | (simp; omega))
                          · exact HN14a
                          · exact (by repeat (first | (with_reducible refine Below.setCell ?_ (by first | omega | (· simp) | (· (simp; omega))) _) | (with_reducible refine Below.alloc ?_ (by first | omega | (· simp) | (· (simp; omega))) _) | (with_reducible refine Below.drew ?_) | (with_reducible refine bdrewN ?_ _) | (with_reducible exact Below.refl _ _) | (with_reducible assumption) | (with_reducible refine Below.trans ?_ (Below.mono (by assumption) (by first | omega | (· simp) | (· (simp; omega))))) | (with_reducible refine Below.trans ?_ (Kp.below (by assumption) (by first | omega | (· simp) | (· (simp; omega))) (by first | omega | (· simp) | (· (simp; omega)))))))
                        case rest =>
                          obtain ⟨g4, x14a_0, x14a_1A, x14a_1c, x14a_1l, rfl, rfl, B12_4, lb4, nb4_14a, HT14a, HD14a, HO12_14a, HN14a, hb12⟩ := hcut
                          obtain ⟨W12, hWeq⟩ : ∃ W : World, W = wc := ⟨_, rfl⟩
                          subst hWeq
                          have hs12 := hb12.size
                          have lu4 := blk_lt B12_4
                          have B12_0 := (hb12.block g0 (by omega)).trans B11_0
                          clear B11_0
                          have B12_1 := (hb12.block g1 (by omega)).trans B11_1
                          clear B11_1
                          have B12_2 := (hb12.block g2 (by omega)).trans B11_2
                          clear B11_2
                          have B12_3 := (hb12.block g3 (by omega)).trans B11_3
                          clear B11_3
                          have RA12_0 : (E.agg [.str a0_0, .lst 1 9 a0_1A a0_1c a0_1l]).Re W12 0 w.heap.size := RA11_0.below hb12 (by omega)
                          clear RA11_0
                          have I12_3a := I11_3a.below hb12 (by omega)
                          clear I11_3a
                          have HOm12_5a := Lib.hid (HOm11_5a.out.below hb12 (by omega))
                          clear HOm11_5a
                          have hB12 : Below w.heap.size w W12 := hB11.trans (hb12.mono (by omega))
                          go_upto_region 27 with fail
                          go_cut [100] (fun s100 wx => s100 = .bool false ∧ Below W12.heap.size W12 wx)
                          case first =>
                            have hwW := hB12.size
                            have ltW4 : g4 < W12.heap.size := by omega
                            have ltW1 : g1 < W12.heap.size := by omega
                            have hiW3a : W3.heap.size ≤ W12.heap.size := by omega
                            have hiW14a : W12.heap.size ≤ W12.heap.size := by omega
                            clear hs1 lu0 lb0 hs2 lu1 lb1 hs4 lu2 lb2 nb2_4 hs5 lu3 lb3 nb3_5a hs6 hs7 hs8 hs9 hs10 hs11 lu4 lb4 nb4_14a
                            clear B12_0 B12_2 B12_3 HOm12_5a
                            have z0_4_0 : W12.cell? ⟨g4, 0, none⟩ = some (.string x14a_0) := cell_of B12_4 rfl
                            have z0_4_1 : W12.cell? ⟨g4, 1, none⟩ = some (.slice x14a_1A x14a_1l.length x14a_1c) := cell_of B12_4 rfl
                            have z0_1_0 : W12.cell? ⟨g1, 0, none⟩ = some (.string x3a_0) := cell_of B12_1 rfl
                            have z0_1_1 : W12.cell? ⟨g1, 1, none⟩ = some (.slice x3a_1A x3a_1l.length x3a_1c) := cell_of B12_1 rfl
                            go_wp2_with fail
                            go_at_call 9
                            refine (eqRec_all HT14a.out HT3a.out ((show (E.agg [.str x14a_0, .lst 1 9 x14a_1A x14a_1c x14a_1l]).d = setFD D0 a1 a2 from HD14a.out).trans (show (E.agg [.str x3a_0, .lst 1 9 x3a_1A x3a_1c x3a_1l]).d = setFD D0 a1 a2 from HD3a.out).symm) _ (by have h : (E.agg [.str x14a_0, .lst 1 9 x14a_1A x14a_1c x14a_1l]).In W12 := HO12_14a.out.inn; exact (by repeat (first | (with_reducible assumption) | (with_reducible refine E.In.drew ?_) | (with_reducible refine E.In.drewN ?_ _) | (with_reducible refine E.In.alloc ?_ _) | (refine E.In.below ?_ (by with_reducible assumption) ?_) | omega | (· simp) | (· (simp; omega))))) (by have h : (E.agg [.str x3a_0, .lst 1 9 x3a_1A x3a_1c x3a_1l]).In W12 := I12_3a.inn (by omega); exact (by repeat (first | (with_reducible assumption) | (with_reducible refine E.In.drew ?_) | (with_reducible refine E.In.drewN ?_ _) | (with_reducible refine E.In.alloc ?_ _) | (refine E.In.below ?_ (by with_reducible assumption) ?_) | omega | (· simp) | (· (simp; omega)))))).mono ?_; rintro e w15 ⟨rfl, hb15⟩; have hz15 := hb15.size; (try simp only [World.size_alloc, World.size_drew, World.heap_drewN, World.size_setCell] at hz15)
                            go_wp2_with fail
                            go_meet
                            refine ⟨rfl, ?_⟩
                            · exact (by repeat (first | (with_reducible refine Below.setCell ?_ (by first | omega | (· simp) | (· (simp; omega))) _) | (with_reducible refine Below.alloc ?_ (by first | omega | (· simp) | (· (simp; omega))) _) | (with_reducible refine Below.drew ?_) | (with_reducible refine bdrewN ?_ _) | (with_reducible exact Below.refl _ _) | (with_reducible assumption) | (with_reducible refine Below.trans ?_ (Below.mono (by assumption) (by first | omega | (· simp) | (· (simp; omega))))) | (with_reducible refine Below.trans ?_ (Kp.below (by assumption) (by first | omega | (· simp) | (· (simp; omega))) (by first | omega | (· simp) | (· (simp; omega)))))))
                          case rest =>
                            obtain ⟨rfl, hb13⟩ := hcut
                            obtain ⟨W13, hWeq⟩ : ∃ W : World, W = wc := ⟨_, rfl⟩
                            subst hWeq
                            have hs13 := hb13.size
                            have B13_0 := (hb13.block g0 (by omega)).trans B12_0
                            clear B12_0
                            have B13_1 := (hb13.block g1 (by omega)).trans B12_1
                            clear B12_1
                            have B13_2 := (hb13.block g2 (by omega)).trans B12_2
                            clear B12_2
                            have B13_3 := (hb13.block g3 (by omega)).trans B12_3
                            clear B12_3
                            have B13_4 := (hb13.block g4 (by omega)).trans B12_4
                            clear B12_4
                            have RA13_0 : (E.agg [.str a0_0, .lst 1 9 a0_1A a0_1c a0_1l]).Re W13 0 w.heap.size := RA12_0.below hb13 (by omega)
                            clear RA12_0
                            have I13_3a := I12_3a.below hb13 (by omega)
                            clear I12_3a
                            have HOm13_5a := Lib.hid (HOm12_5a.out.below hb13 (by omega))
                            clear HOm12_5a
                            have HO13_14a := Lib.hid (HO12_14a.out.below hb13 (by omega))
                            clear HO12_14a
                            have hB13 : Below w.heap.size w W13 := hB12.trans (hb13.mono (by omega))
                            go_upto_region 30 with fail
                            go_cut [15] (fun s15 wx => s15 = .int .i64 (1 + ((E.agg [.str x5a_0, .lst 1 9 x5a_1A x5a_1c x5a_1l]).cnt : Int)) ∧ Below W13.heap.size W13 wx)
                            case first =>
                              have hwW := hB13.size
                              have ltW3 : g3 < W13.heap.size := by omega
                              have hiW5a : W5.heap.size ≤ W13.heap.size := by omega
                              clear hs1 lu0 lb0 hs2 hs3 lu1 lb1 hs4 lu2 lb2 nb2_4 lu3 lb3 nb3_5a hs6 hs7 hs8 hs9 hs10 hs11 hs12 lu4 lb4 nb4_14a hs13
                              clear B13_0 B13_1 B13_2 B13_4 I13_3a HO13_14a
                              have z0_3_0 : W13.cell? ⟨g3, 0, none⟩ = some (.string x5a_0) := cell_of B13_3 rfl
                              have z0_3_1 : W13.cell? ⟨g3, 1, none⟩ = some (.slice x5a_1A x5a_1l.length x5a_1c) := cell_of B13_3 rfl
                              go_wp2_with fail
                              go_at_call 11
                              refine (heldRec_all HT5a.out _ _ (by have h : ((E.agg [.str x5a_0, .lst 1 9 x5a_1A x5a_1c x5a_1l]).mk0 1).In W13 := HOm13_5a.out.inn; exact (by repeat (first | (with_reducible assumption) | (with_reducible refine E.In.drew ?_) | (with_reducible refine E.In.drewN ?_ _) | (with_reducible refine E.In.alloc ?_ _) | (refine E.In.below ?_ (by with_reducible assumption) ?_) | omega | (· simp) | (· (simp; omega))))) (by omega) (by have := cnt_of HT5a.out HD5a (setFD_sz hD0 (by omega)); omega)).mono ?_; rintro e w16 ⟨rfl, hb16⟩
                              go_wp2_with fail
                              go_meet
                              refine ⟨rfl, ?_⟩
                              · exact (by repeat (first | (with_reducible refine Below.setCell ?_ (by first | omega | (· simp) | (· (simp; omega))) _) | (with_reducible refine Below.alloc ?_ (by first | omega | (· simp) | (· (simp; omega))) _) | (with_reducible refine Below.drew ?_) | (with_reducible refine bdrewN ?_ _) | (with_reducible exact Below.refl _ _) | (with_reducible assumption) | (with_reducible refine Below.trans ?_ (Below.mono (by assumption) (by first | omega | (· simp) | (· (simp; omega))))) | (with_reducible refine Below.trans ?_ (Kp.below (by assumption) (by first | omega | (· simp) | (· (simp; omega))) (by first | omega | (· simp) | (· (simp; omega)))))))
                            case rest =>
                              obtain ⟨rfl, hb14⟩ := hcut
                              obtain ⟨W14, hWeq⟩ : ∃ W : World, W = wc := ⟨_, rfl⟩
                              subst hWeq
                              have hs14 := hb14.size
                              have B14_0 := (hb14.block g0 (by omega)).trans B13_0
                              clear B13_0
                              have B14_1 := (hb14.block g1 (by omega)).trans B13_1
                              clear B13_1
                              have B14_2 := (hb14.block g2 (by omega)).trans B13_2
                              clear B13_2
                              have B14_3 := (hb14.block g3 (by omega)).trans B13_3
                              clear B13_3
                              have B14_4 := (hb14.block g4 (by omega)).trans B13_4
                              clear B13_4
                              have RA14_0 : (E.agg [.str a0_0, .lst 1 9 a0_1A a0_1c a0_1l]).Re W14 0 w.heap.size := RA13_0.below hb14 (by omega)
                              clear RA13_0
                              have I14_3a := I13_3a.below hb14 (by omega)
                              clear I13_3a
                              have HOm14_5a := Lib.hid (HOm13_5a.out.below hb14 (by omega))
                              clear HOm13_5a
                              have HO14_14a := Lib.hid (HO13_14a.out.below hb14 (by omega))
                              clear HO13_14a
                              have hB14 : Below w.heap.size w W14 := hB13.trans (hb14.mono (by omega))
                              go_wp2
                              go_ret
                              exact ⟨rfl, hB14⟩
end Go.Proofs.Ytfdjognmechcfaa
