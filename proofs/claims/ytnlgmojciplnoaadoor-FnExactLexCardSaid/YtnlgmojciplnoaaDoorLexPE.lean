/- What data say, handed to a function of data with places. -/
import Derived.Test.YtnlgmojciplnoaaDoorLexPD
namespace Go.Proofs.YtnlgmojciplnoaaDoor
open Go.RowKit
end Go.Proofs.YtnlgmojciplnoaaDoor
namespace Go.Proofs.YtnlgmojciplnoaaDoor
open Go.RowKit
end Go.Proofs.YtnlgmojciplnoaaDoor
namespace Go.Proofs.YtnlgmojciplnoaaDoor
open Go.RowKit
theorem zh3 {e : E} (h : e.Ty Tryd.prog 31) : ∃ (x0 : Int) (x1 : Int) (x2 : ByteArray), e = (E.agg [.int .i64 x0, .int .i64 x1, .str x2]) ∧ ((Lit.int .i64 x0).wf = true) ∧ ((Lit.int .i64 x1).wf = true) ∧ (x2.size ≤ 9223372036854775807) ∧ True := by
  obtain ⟨fs, rfl, q0⟩ := h.agg_ Tryd.underlying31
  change E.TyF _ _ [3, 3, 9] at q0
  obtain ⟨e0, r0, rfl, h0, q1⟩ := q0.cons_
  obtain ⟨e1, r1, rfl, h1, q2⟩ := q1.cons_
  obtain ⟨e2, r2, rfl, h2, q3⟩ := q2.cons_
  obtain rfl := q3.nil_
  obtain ⟨x0, rfl, gx0⟩ := h0.int_ Tryd.underlying3
  obtain ⟨x1, rfl, gx1⟩ := h1.int_ Tryd.underlying3
  obtain ⟨x2, rfl, gx2⟩ := h2.str_ Tryd.underlying9
  exact ⟨x0, x1, x2, rfl, gx0, gx1, gx2, trivial⟩
set_option maxRecDepth 100000 in
set_option maxHeartbeats 1000000 in
theorem zh10 {e e' : E} (ht : e.Ty Tryd.prog 31) (ht' : e'.Ty Tryd.prog 31) : Eq 34 e e' := by
  obtain ⟨x0, x1, x2, rfl, gx0, gx1, gx2, -⟩ := zh3 ht
  obtain ⟨y0, y1, y2, rfl, gy0, gy1, gy2, -⟩ := zh3 ht'
  intro hd w hr hr'
  simp only [E.d, E.dL, E.agg.injEq, List.cons.injEq, E.int.injEq, E.str.injEq, E.bool.injEq, E.lst.injEq, true_and, and_true] at hd
  obtain ⟨rfl, rfl, rfl⟩ := hd
  change Calls _ _ #[.agg #[.int .i64 x0, .int .i64 x1, .string x2], .agg #[.int .i64 x0, .int .i64 x1, .string x2]] w _
  go_enter Tryd.func34, Tryd.ntmps34
  go_wp2
  go_ret
  exact ⟨rfl, (by repeat (first | (with_reducible refine Below.setCell ?_ (by first | omega | (· simp) | (· (simp; omega))) _) | (with_reducible refine Below.alloc ?_ (by first | omega | (· simp) | (· (simp; omega))) _) | (with_reducible refine Below.drew ?_) | (with_reducible refine zy3 ?_ _) | (with_reducible exact Below.refl _ _) | (with_reducible assumption) | (with_reducible refine Below.trans ?_ (Below.mono (by assumption) (by first | omega | (· simp) | (· (simp; omega))))) | (with_reducible refine Below.trans ?_ (Kp.below (by assumption) (by first | omega | (· simp) | (· (simp; omega))) (by first | omega | (· simp) | (· (simp; omega)))))))⟩
set_option maxRecDepth 100000 in
set_option maxHeartbeats 1000000 in
theorem eqTokenS_all' (A B : Option Addr) (c c' : Nat) (l m : List E) (h1 : ∀ y ∈ l, y.Ty Tryd.prog 31) (h2 : ∀ y ∈ m, y.Ty Tryd.prog 31) : Eq 14 (.lst 3 31 A c l) (.lst 3 31 B c' m) := by
  intro hd w hr hr'
  rw [zc21] at hd
  have hs := hr.sl
  have hs' := hr'.sl
  have hml := zd21 hd
  have HD := Lib.hid hd
  clear hd
  have hlen := hs.len_le
  change Calls _ _ #[.slice A l.length c, .slice B m.length c'] w _
  obtain ⟨N, HN⟩ : ∃ N, Hid (m.length = N) := ⟨_, rfl⟩
  have hN : N = l.length := by have := HN.out; omega
  subst hN
  rw [HN.out]
  clear hml
  go_enter Tryd.func14, Tryd.ntmps14
  go_wp2
  go_loopw [5] (fun i wr => ∃ (k : Nat), k ≤ l.length ∧ i = .int .i64 k ∧ Below w.heap.size w wr) (fun i _ => l.length - (intOf i).toNat)
  case atStart => exact ⟨0, Nat.zero_le _, rfl, Below.refl _ _⟩
  case round =>
    obtain ⟨k, hk, rfl, hb⟩ := hrel
    by_cases hlt : k < l.length
    · have hltm : k < m.length := by have := HN.out; omega
      have hsb := hs.below hb (Nat.le_refl _)
      have hsb' := hs'.below hb (Nat.le_refl _)
      have hdk := d_at HD.out hlt hltm
      obtain ⟨b, o, rfl, _, hc⟩ := hsb.at_ hlt
      obtain ⟨b', o', rfl, _, hd⟩ := hsb'.at_ hltm
      have hin := (hr.el (List.getElem_mem hlt)).below hb (Nat.le_refl _)
      have hin' := (hr'.el (List.getElem_mem hltm)).below hb (Nat.le_refl _)
      have H := zh10 (h1 _ (List.getElem_mem hlt)) (h2 _ (List.getElem_mem hltm)) hdk
      obtain ⟨x0, x1, x2, ex, gx0, gx1, gx2, -⟩ := zh3 (h1 _ (List.getElem_mem hlt))
      obtain ⟨y0, y1, y2, ey, gy0, gy1, gy2, -⟩ := zh3 (h2 _ (List.getElem_mem hltm))
      rw [ex] at hc hin
      rw [ey] at hd hin'
      rw [ex, ey] at H
      clear ex ey hdk
      have c0 := hc 0 _ rfl; have c1 := hc 1 _ rfl; have c2 := hc 2 _ rfl
      have d0 := hd 0 _ rfl; have d1 := hd 1 _ rfl; have d2 := hd 2 _ rfl
      rw [Nat.add_zero] at c0 d0
      clear hc hd
      have hzb := hb.size
      have HH := Lib.hid H
      clear H
      go_wp2
      go_region_held3 (fun w' => w'.cell? ⟨b, o + k * 3, none⟩ = some (.int .i64 x0) ∧ w'.cell? ⟨b, o + k * 3 + 1, none⟩ = some (.int .i64 x1) ∧ w'.cell? ⟨b, o + k * 3 + 2, none⟩ = some (.string x2) ∧ w'.cell? ⟨b', o' + k * 3, none⟩ = some (.int .i64 y0) ∧ w'.cell? ⟨b', o' + k * 3 + 1, none⟩ = some (.int .i64 y1) ∧ w'.cell? ⟨b', o' + k * 3 + 2, none⟩ = some (.string y2))
        (first | exact ⟨c0, c1, c2, d0, d1, d2⟩ | skip)
        ((go_at_call 34; refine (HH.out _ (by repeat (first | (with_reducible assumption) | (with_reducible refine E.In.drew ?_) | (with_reducible refine E.In.drewN ?_ _) | (with_reducible refine E.In.alloc ?_ _) | (refine E.In.below ?_ (by with_reducible assumption) ?_) | omega | (· simp) | (· (simp; omega)))) (by repeat (first | (with_reducible assumption) | (with_reducible refine E.In.drew ?_) | (with_reducible refine E.In.drewN ?_ _) | (with_reducible refine E.In.alloc ?_ _) | (refine E.In.below ?_ (by with_reducible assumption) ?_) | omega | (· simp) | (· (simp; omega))))).mono ?_; rintro e w1 ⟨rfl, hb1⟩; have c0 := zz3 hb1 c0 (by first | omega | (· simp) | (· (simp; omega))); have c1 := zz3 hb1 c1 (by first | omega | (· simp) | (· (simp; omega))); have c2 := zz3 hb1 c2 (by first | omega | (· simp) | (· (simp; omega))); have d0 := zz3 hb1 d0 (by first | omega | (· simp) | (· (simp; omega))); have d1 := zz3 hb1 d1 (by first | omega | (· simp) | (· (simp; omega))); have d2 := zz3 hb1 d2 (by first | omega | (· simp) | (· (simp; omega)))))
      go_wp2
      go_roundw
      case rel => exact ⟨k + 1, by omega, by go_num, by exact (by repeat (first | (with_reducible refine Below.setCell ?_ (by first | omega | (· simp) | (· (simp; omega))) _) | (with_reducible refine Below.alloc ?_ (by first | omega | (· simp) | (· (simp; omega))) _) | (with_reducible refine Below.drew ?_) | (with_reducible refine zy3 ?_ _) | (with_reducible exact Below.refl _ _) | (with_reducible assumption) | (with_reducible refine Below.trans ?_ (Below.mono (by assumption) (by first | omega | (· simp) | (· (simp; omega))))) | (with_reducible refine Below.trans ?_ (Kp.below (by assumption) (by first | omega | (· simp) | (· (simp; omega))) (by first | omega | (· simp) | (· (simp; omega)))))))⟩
      case measure => simp [intOf]; omega
    · go_wp2
      go_ret
      exact ⟨rfl, hb⟩
theorem zh6 {e e' : E} (ht : e.Ty Tryd.prog 24) (ht' : e'.Ty Tryd.prog 24) : Eq 14 e e' := by
  obtain ⟨A, c, l, rfl, h1, _⟩ := ht.lst_ Tryd.underlying24 (k := 3) (by kernel_rfl)
  obtain ⟨B, c', m, rfl, h2, _⟩ := ht'.lst_ Tryd.underlying24 (k := 3) (by kernel_rfl)
  exact eqTokenS_all' A B c c' l m h1 h2
set_option maxRecDepth 100000 in
set_option maxHeartbeats 1000000 in
theorem markTokenS_all' (A : Option Addr) (c : Nat) (l : List E) (h1 : ∀ y ∈ l, y.Ty Tryd.prog 31) (h2 : ∀ y ∈ l, y.enc.length = 3) : Mar 15 (.lst 3 31 A c l) := by
  intro lo hi k0 w ho hnd hhi hk0 hk1
  have HCN : Hid ((E.lst 3 31 A c l).cnt = E.cntcL l) := rfl
  rw [HCN.out] at hk1
  have HND := Lib.hid hnd
  clear hnd
  have hlen := ho.re.sl.len_le
  have how0 := ho
  rw [← zm12 l k0] at how0
  clear ho
  change Calls _ _ #[.slice A l.length c, .int .i64 k0] w _
  rw [HCN.out]
  change Calls _ _ _ w fun r w' => r = .returned (.int .i64 (k0 + (E.cntcL l : Nat))) ∧ (E.lst 3 31 A c (E.mkcL l k0)).Ho w' lo hi ∧ Fr (E.lst 3 31 A c l).fp w w'
  go_enter Tryd.func15, Tryd.ntmps15
  go_wp2
  go_loopw [1, 5] (fun v i wr => ∃ (k : Nat) (q : Int), k ≤ l.length ∧ i = .int .i64 k ∧ v = .int .i64 q ∧ Hid (q = k0 + (E.cntcL (l.take k) : Nat)) ∧ Fr (E.lst 3 31 A c l).fp w wr ∧ Hid ((E.lst 3 31 A c (mixM l k0 k)).Ho wr lo hi)) (fun _ i _ => l.length - (intOf i).toNat)
  case atStart => exact ⟨0, k0, Nat.zero_le _, rfl, rfl, (by show _ = _; simp [E.cntcL]), Fr.refl _ _, how0⟩
  case round =>
    obtain ⟨k, q, hk, rfl, rfl, HQ, hF0, HOW⟩ := hrel
    have hzk := hF0.size
    by_cases hlt : k < l.length
    · have HT := Lib.hid (E.cntcL_take l k hlt)
      have hq0 : 0 ≤ q := by have := HQ.out; omega
      have hml : k < (mixM l k0 k).length := by rw [zq10]; exact hlt
      have how := HOW.out
      obtain ⟨g, rfl, hg1, hg2, hg3⟩ := how.head (by omega)
      obtain ⟨y0, y1, y2, ex, gy0, gy1, gy2, -⟩ := zh3 (h1 _ (List.getElem_mem hlt))
      have HCX : Hid ((E.agg [.int .i64 y0, .int .i64 y1, .str y2]).cntc = (1 + (1 + (1 + 0)))) := rfl
      have hq1 : q + (((1 + (1 + (1 + 0))) : Nat) : Int) ≤ 1152921504606846976 := by have e1 := HQ.out; have e2 := HT.out; have e3 := E.cntcL_le l (k + 1); rw [ex, HCX.out] at e2; omega
      have e0 : mixM l k0 k = (mixM l k0 k).set k (E.agg [.int .i64 y0, .int .i64 y1, .str y2]) := by rw [← ex, ← zn12 l k0 k hlt]; exact (List.set_getElem_self _).symm
      have HN2 := Lib.hid (fun (z : E) (hz : z.fp = (E.agg [.int .i64 y0, .int .i64 y1, .str y2]).fp) => (show (E.lst 3 31 (some ⟨g, 0, none⟩) c ((mixM l k0 k).set k z)).fp.Nodup by have hh := HND.out; have h3 : E.fpL ((mixM l k0 k).set k z) = E.fpL l := (E.fpL_set hml (by rw [hz, ← ex, zn12 l k0 k hlt])).trans (zw17 l k0 k); simp only [E.fp] at hh ⊢; rw [h3]; exact hh))
      have HSB := Lib.hid (fun (b : Nat) (hb : b ∈ (E.agg [.int .i64 y0, .int .i64 y1, .str y2]).fp) => (show b ∈ (E.lst 3 31 (some ⟨g, 0, none⟩) c l).fp by simp only [E.fp]; exact List.mem_append_right _ (E.mem_fpL.2 ⟨l[k], List.getElem_mem hlt, by rw [ex]; exact hb⟩)))
      have hgm : g ∈ (E.lst 3 31 (some ⟨g, 0, none⟩) c l).fp := by simp [E.fp]
      have HGM := Lib.hid hgm
      clear hgm
      rw [e0] at how
      clear e0
      obtain ⟨ms, HMS⟩ : ∃ ms, Hid (mixM l k0 k = ms) := ⟨_, rfl⟩
      rw [HMS.out] at how hml HN2
      have HEX := Lib.hid ex
      clear ex
      have HML := Lib.hid hml
      clear hml
      have H0 := Lib.hid how
      clear how
      have c0_0 : wr.cell? ⟨g, k * 3, none⟩ = some (.int .i64 y0) := H0.out.cellx (j := 0) (u := .int .i64 y0) (by simpa using HML.out) (zn7 HML.out _) rfl
      have c0_1 : wr.cell? ⟨g, k * 3 + 1, none⟩ = some (.int .i64 y1) := H0.out.cellx (j := 1) (u := .int .i64 y1) (by simpa using HML.out) (zn7 HML.out _) rfl
      have c0_2 : wr.cell? ⟨g, k * 3 + 2, none⟩ = some (.string y2) := H0.out.cellx (j := 2) (u := .string y2) (by simpa using HML.out) (zn7 HML.out _) rfl
      have fz0 := H0.out.frzx
      go_wp2_with fail
      have H1 : Hid ((E.lst 3 31 (some ⟨g, 0, none⟩) c (ms.set k (E.agg [(E.int .i64 (q)), (E.int .i64 y1), (E.str y2)]))).Ho (wr.setCell ⟨g, k * 3, none⟩ (.int .i64 (q))) lo hi) := H0.out.store (HN2.out _ (by first | rfl | (simp only [E.fp, E.fpL, E.mkcL_fp, E.mk0L_fp, E.mk0_fp, E.mkc_fp]; done) | fail)) HML.out (E.agg [(E.int .i64 (q)), (E.int .i64 y1), (E.str y2)]) 0 (.int .i64 (q)) (by omega) rfl (fun _ h => h)
      clear H0
      have H2 : Hid ((E.lst 3 31 (some ⟨g, 0, none⟩) c (ms.set k (E.agg [(E.int .i64 (q)), (E.int .i64 (q + 1)), (E.str y2)]))).Ho ((wr.setCell ⟨g, k * 3, none⟩ (.int .i64 (q))).setCell ⟨g, k * 3 + 1, none⟩ (.int .i64 (q + 1))) lo hi) := H1.out.store (HN2.out _ (by first | rfl | (simp only [E.fp, E.fpL, E.mkcL_fp, E.mk0L_fp, E.mk0_fp, E.mkc_fp]; done) | fail)) HML.out (E.agg [(E.int .i64 (q)), (E.int .i64 (q + 1)), (E.str y2)]) 1 (.int .i64 (q + 1)) (by omega) rfl (fun _ h => h)
      clear H1
      clear c0_0 c0_1 c0_2 fz0
      go_at_call 35
      refine (zd6 _ _ (by omega)).mono ?_; rintro e w1 ⟨rfl, hb1⟩
      have hz1 := hb1.size; (try simp only [World.size_setCell] at hz1)
      have H3 := Lib.hid (H2.out.below hb1 (by first | omega | (simp; omega)))
      clear H2
      have hF1 : Fr (E.lst 3 31 (some ⟨g, 0, none⟩) c l).fp w w1 := ((hF0.set HGM.out (.int .i64 (q))).set HGM.out (.int .i64 (q + 1))).trans (Fr.of_below hb1)
      have c1_0 : w1.cell? ⟨g, k * 3, none⟩ = some (.int .i64 (q)) := H3.out.cellx (j := 0) (u := .int .i64 (q)) (by simpa using HML.out) (zn7 HML.out _) rfl
      have c1_1 : w1.cell? ⟨g, k * 3 + 1, none⟩ = some (.int .i64 (q + 1)) := H3.out.cellx (j := 1) (u := .int .i64 (q + 1)) (by simpa using HML.out) (zn7 HML.out _) rfl
      have c1_2 : w1.cell? ⟨g, k * 3 + 2, none⟩ = some (.string y2) := H3.out.cellx (j := 2) (u := .string y2) (by simpa using HML.out) (zn7 HML.out _) rfl
      have fz1 := H3.out.frzx
      go_wp2
      go_roundw
      case rel =>
        have H4 : Hid ((E.lst 3 31 (some ⟨g, 0, none⟩) c (ms.set k (E.agg [(E.int .i64 (q)), (E.int .i64 (q + 1)), (E.str (markT (q + 1 + 1)))]))).Ho (w1.setCell ⟨g, k * 3 + 2, none⟩ (.string (markT (q + 1 + 1)))) lo hi) := H3.out.store (HN2.out _ (by first | rfl | (simp only [E.fp, E.fpL, E.mkcL_fp, E.mk0L_fp, E.mk0_fp, E.mkc_fp]; done) | fail)) HML.out (E.agg [(E.int .i64 (q)), (E.int .i64 (q + 1)), (E.str (markT (q + 1 + 1)))]) 2 (.string (markT (q + 1 + 1))) (by omega) rfl (fun _ h => h)
        have FF : ∀ t0 t1 t2 : Int, (q) = t0 → (q + 1) = t1 → (q + 1 + 1) = t2 → (E.agg [(E.int .i64 (q)), (E.int .i64 (q + 1)), (E.str (markT (q + 1 + 1)))]) = (E.agg [(E.int .i64 t0), (E.int .i64 t1), (E.str (markT t2))]) := by
          intro t0 t1 t2 ht0 ht1 ht2
          subst ht0
          subst ht1
          subst ht2
          rfl
        have EX : (E.agg [(E.int .i64 (q)), (E.int .i64 (q + 1)), (E.str (markT (q + 1 + 1)))]) = (E.agg [.int .i64 y0, .int .i64 y1, .str y2]).mkc q := FF _ _ _ (by first | rfl | omega | (show _ = _; simp only [E.cnt, E.cntL, E.cntc, E.cntcL, reduceCtorEq, if_false, if_true, ite_false]; omega)) (by first | rfl | omega | (show _ = _; simp only [E.cnt, E.cntL, E.cntc, E.cntcL, reduceCtorEq, if_false, if_true, ite_false]; omega)) (by first | rfl | omega | (show _ = _; simp only [E.cnt, E.cntL, E.cntc, E.cntcL, reduceCtorEq, if_false, if_true, ite_false]; omega))
        exact ⟨k + 1, _, by omega, by go_num, rfl, (by show _ = _; have e1 := HQ.out; have e2 := HT.out; rw [HEX.out, HCX.out] at e2; omega), (hF1.set HGM.out (.string (markT (q + 1 + 1)))), (by show E.Ho _ _ _ _; rw [← zo12 l k0 k hlt, HEX.out, ← HQ.out, ← EX, HMS.out]; exact H4.out)⟩
      case measure => simp [intOf]; omega
    · have hk' : k = l.length := by omega
      subst hk'
      go_wp2
      go_ret
      have e1 := HQ.out
      rw [List.take_length] at e1
      have h := HOW.out
      rw [zn15] at h
      exact ⟨ri e1, h, hF0⟩
set_option maxRecDepth 100000 in
set_option maxHeartbeats 1000000 in
theorem heldTokenS_all' (A : Option Addr) (c : Nat) (l : List E) (h1 : ∀ y ∈ l, y.Ty Tryd.prog 31) (h2 : ∀ y ∈ l, y.enc.length = 3) : Hel 16 (.lst 3 31 A c l) := by
  intro k0 w hr h0 hk1
  have HCN : Hid ((E.lst 3 31 A c l).cnt = E.cntcL l) := rfl
  rw [HCN.out] at hk1
  change (E.lst 3 31 A c (E.mkcL l k0)).In w at hr
  have hs := hr.sl
  have hlen := hs.len_le
  rw [E.mkcL_len] at hlen
  change Calls _ _ #[.slice A l.length c, .int .i64 k0] w _
  rw [HCN.out]
  change Calls _ _ _ w fun r w' => r = .returned (.int .i64 (k0 + (E.cntcL l : Nat))) ∧ Below w.heap.size w w'
  go_enter Tryd.func16, Tryd.ntmps16
  go_wp2
  go_loopw [1, 5] (fun v i wr => ∃ (k : Nat) (q : Int), k ≤ l.length ∧ i = .int .i64 k ∧ v = .int .i64 q ∧ Hid (q = k0 + (E.cntcL (l.take k) : Nat)) ∧ Below w.heap.size w wr) (fun _ i _ => l.length - (intOf i).toNat)
  case atStart => exact ⟨0, k0, Nat.zero_le _, rfl, rfl, (by show _ = _; simp [E.cntcL]), Below.refl _ _⟩
  case round =>
    obtain ⟨k, q, hk, rfl, rfl, HQ, hb⟩ := hrel
    have hzb := hb.size
    by_cases hlt : k < l.length
    · have HT := Lib.hid (E.cntcL_take l k hlt)
      have hq0 : 0 ≤ q := by have := HQ.out; omega
      have hlm : k < (E.mkcL l k0).length := by rw [E.mkcL_len]; exact hlt
      obtain ⟨y0, y1, y2, ex, gy0, gy1, gy2, -⟩ := zh3 (h1 _ (List.getElem_mem hlt))
      have HCX : Hid ((E.agg [.int .i64 y0, .int .i64 y1, .str y2]).cntc = (1 + (1 + (1 + 0)))) := rfl
      have hq1 : q + (((1 + (1 + (1 + 0))) : Nat) : Int) ≤ 1152921504606846976 := by have e1 := HQ.out; have e2 := HT.out; have e3 := E.cntcL_le l (k + 1); rw [ex, HCX.out] at e2; omega
      have FF : ∀ t0 t1 t2 : Int, (q) = t0 → (q + 1) = t1 → (q + 1 + 1) = t2 → (E.agg [(E.int .i64 (q)), (E.int .i64 (q + 1)), (E.str (markT (q + 1 + 1)))]) = (E.agg [(E.int .i64 t0), (E.int .i64 t1), (E.str (markT t2))]) := by
        intro t0 t1 t2 ht0 ht1 ht2
        subst ht0
        subst ht1
        subst ht2
        rfl
      have EX : (E.agg [(E.int .i64 (q)), (E.int .i64 (q + 1)), (E.str (markT (q + 1 + 1)))]) = (E.agg [.int .i64 y0, .int .i64 y1, .str y2]).mkc q := FF _ _ _ (by first | rfl | omega | (show _ = _; simp only [E.cnt, E.cntL, E.cntc, E.cntcL, reduceCtorEq, if_false, if_true, ite_false]; omega)) (by first | rfl | omega | (show _ = _; simp only [E.cnt, E.cntL, E.cntc, E.cntcL, reduceCtorEq, if_false, if_true, ite_false]; omega)) (by first | rfl | omega | (show _ = _; simp only [E.cnt, E.cntL, E.cntc, E.cntcL, reduceCtorEq, if_false, if_true, ite_false]; omega))
      have hs' := hs.below hb (Nat.le_refl _)
      have hin := (hr.el (List.getElem_mem hlm)).below hb (Nat.le_refl _)
      obtain ⟨b, o, rfl, hbl, hc⟩ := hs'.at_ hlm
      rw [E.mkcL_at l k0 k hlt, ex, ← HQ.out, ← EX] at hc hin
      clear EX FF
      have HEX := Lib.hid ex
      clear ex hlm hs'
      have c0_0 : wr.cell? ⟨b, o + k * 3, none⟩ = some (.int .i64 (q)) := by have h := hc 0 _ rfl; exact h
      have c0_1 : wr.cell? ⟨b, o + k * 3 + 1, none⟩ = some (.int .i64 (q + 1)) := by have h := hc 1 _ rfl; exact h
      have c0_2 : wr.cell? ⟨b, o + k * 3 + 2, none⟩ = some (.string (markT (q + 1 + 1))) := by have h := hc 2 _ rfl; exact h
      clear hc
      clear hin
      go_wp2_with fail
      go_region_held3 (fun w' => w'.cell? ⟨b, o + k * 3 + 2, none⟩ = some (.string (markT (q + 1 + 1)))) (first | assumption | skip) ((go_at_call 35; refine (zd6 _ _ (by omega)).mono ?_; rintro e w1 ⟨rfl, hb1⟩; have hz1 := hb1.size; (try simp only [World.size_alloc, World.size_drew, World.heap_drewN, World.size_setCell] at hz1); have c1_2 := zz3 hb1 c0_2 (by first | omega | (simp; omega))))
      go_wp2_with fail
      go_roundw
      case rel => exact ⟨k + 1, _, by omega, by go_num, rfl, (by show _ = _; have e1 := HQ.out; have e2 := HT.out; rw [HEX.out, HCX.out] at e2; omega), by exact (by repeat (first | (with_reducible refine Below.setCell ?_ (by first | omega | (· simp) | (· (simp; omega))) _) | (with_reducible refine Below.alloc ?_ (by first | omega | (· simp) | (· (simp; omega))) _) | (with_reducible refine Below.drew ?_) | (with_reducible refine zy3 ?_ _) | (with_reducible exact Below.refl _ _) | (with_reducible assumption) | (with_reducible refine Below.trans ?_ (Below.mono (by assumption) (by first | omega | (· simp) | (· (simp; omega))))) | (with_reducible refine Below.trans ?_ (Kp.below (by assumption) (by first | omega | (· simp) | (· (simp; omega))) (by first | omega | (· simp) | (· (simp; omega)))))))⟩
      case measure => simp [intOf]; omega
    · have hk' : k = l.length := by omega
      subst hk'
      go_wp2
      go_ret
      have e1 := HQ.out
      rw [List.take_length] at e1
      exact ⟨ri e1, hb⟩
theorem zm7 {e : E} (ht : e.Ty Tryd.prog 24) : Mar 15 e := by
  obtain ⟨A, c, l, rfl, h1, h2⟩ := ht.lst_ Tryd.underlying24 (k := 3) (by kernel_rfl)
  exact markTokenS_all' A c l h1 h2
theorem zo5 {e : E} (ht : e.Ty Tryd.prog 24) : Hel 16 e := by
  obtain ⟨A, c, l, rfl, h1, h2⟩ := ht.lst_ Tryd.underlying24 (k := 3) (by kernel_rfl)
  exact heldTokenS_all' A c l h1 h2
section
variable {P : Program} {tm : Nat → AV} {hp : Nat → Option Row} {gn L : Nat} {us : List Nat}
theorem ze11 (id : Nat) {t : Nat} (T : TypeId) (k : Nat) (ht : tm t = .c (.v (.slice none 0 0))) (hf : (Nat.ble gn id && !us.contains id) = true) :
    Gh ⟨tm, hp, gn, us, L⟩ ⟨upd tm t (.c (.sl id 0)), upd hp id (some ⟨T, k, 0, false, []⟩), gn, id :: us, L⟩ := by
  simp only [Bool.and_eq_true, Nat.ble_eq, Bool.not_eq_true'] at hf
  rintro C a w ⟨φ, F, St, h⟩
  obtain ⟨φ', F', St', h', hv⟩ := h.newSlice (id := id) hf.1 (fun hm => by have := hf.2; simp at this; exact this hm) (Stp.refl none w) (fun b hb => by cases hb) (CRL.nil) (fun b hb => absurd hb List.not_mem_nil) (World.ownsRow_nil w 0 T k) (by simp [obl, Value.ownBlock]) (fun b hb => by simp [obl, Value.ownBlock] at hb)
  refine ⟨φ', F', St', h'.dfr, h'.len, fun t' => ?_, h'.row, h'.nod, h'.dis, h'.bxF, h'.bxd, h'.stF, h'.stB, h'.frm, h'.own, h'.par, h'.new, h'.gnN, h'.stS⟩
  show VR w St' φ' _ (upd tm t _ t') _
  by_cases e : t' = t
  · subst e
    rw [zu1]
    have := h.tms t'
    change VR w St φ _ (tm t') _ at this
    rw [ht] at this
    simp only [VR, CR] at this
    rw [this.1]; exact hv
  · rw [zn2 _ _ e]; exact h'.tms t'
end
section
variable {P : Program} {ops : Array Oper} {Q : Exit → Act → World → Prop} {C : Ctx} {H H' : List (Nat × Oper × Inf)} {i : Nat} {r : List Nat} {o : Oper} {dr : Bool}
variable {tm : Nat → AV} {hp : Nat → Option Row} {gn L : Nat} {us : List Nat} {x : AV}
theorem zx1 {I : Inf} : chk false ops i o I H = true := rfl
theorem w_eq {t : Nat} {y : AV} (hop : ops[i]? = some o) (hd : o.dst = some t) (ht : Nat.blt t L = true) (hg : gw ops tm o = some true) (he : EffD P o (AS.ev ⟨tm, hp, gn, us, L⟩) hp 0 = some (x, .nop)) (hy : x = y)
    (hc : chk dr ops i o ⟨fpO (AS.ev ⟨tm, hp, gn, us, L⟩) o, [], [], y⟩ H = true) (h : Walk P ops Q C dr (keepH dr (i, o, ⟨fpO (AS.ev ⟨tm, hp, gn, us, L⟩) o, [], [], y⟩) H) r ⟨upd tm t y, hp, gn, us, L⟩) : Walk P ops Q C dr H (i :: r) ⟨tm, hp, gn, us, L⟩ := by
  subst hy
  exact zd12 0 hop hd ht hg he hc h
theorem zh20 {t : Nat} {b : Bool} (hop : ops[i]? = some o) (hd : o.dst = some t) (ht : Nat.blt t L = true) (hg : gw ops tm o = some true) (he : EffD P o (AS.ev ⟨tm, hp, gn, us, L⟩) hp 0 = some (.c (.v (.bool b)), .nop))
    (hc1 : chk dr ops i o ⟨fpO (AS.ev ⟨tm, hp, gn, us, L⟩) o, [], [], .c (.v (.bool true))⟩ H = true) (hc2 : chk dr ops i o ⟨fpO (AS.ev ⟨tm, hp, gn, us, L⟩) o, [], [], .c (.v (.bool false))⟩ H = true)
    (h1 : b = true → Walk P ops Q C dr (keepH dr (i, o, ⟨fpO (AS.ev ⟨tm, hp, gn, us, L⟩) o, [], [], .c (.v (.bool true))⟩) H) r ⟨upd tm t (.c (.v (.bool true))), hp, gn, us, L⟩)
    (h2 : b = false → Walk P ops Q C dr (keepH dr (i, o, ⟨fpO (AS.ev ⟨tm, hp, gn, us, L⟩) o, [], [], .c (.v (.bool false))⟩) H) r ⟨upd tm t (.c (.v (.bool false))), hp, gn, us, L⟩) : Walk P ops Q C dr H (i :: r) ⟨tm, hp, gn, us, L⟩ := by
  cases b with
  | true => exact zd12 0 hop hd ht hg he hc1 (h1 rfl)
  | false => exact zd12 0 hop hd ht hg he hc2 (h2 rfl)
end
theorem cvC_sl' {hp : Nat → Option Row} {D : List Nat} {i n k : Nat} {rw : Row} {l : List AC} (hr : hp i = some rw) (hb : rw.box = false) (hn : rw.n = n) (hk : rw.k = k) (hc : cloL rw.cs = true) (hl : toRoL rw.cs = l) : cvC hp D (.sl i n) = .ro n k l := by
  subst hk
  exact zg20 hr hb hn hc hl
set_option maxRecDepth 100000
section
variable {ops : Array Oper} {Q : Exit → Act → World → Prop} {C : Ctx} {H H' : List (Nat × Oper × Inf)} {i : Nat} {r : List Nat} {o : Oper} {dr : Bool}
variable {tm : Nat → AV} {hp : Nat → Option Row} {gn L : Nat} {us : List Nat} {x : AV}
theorem zc5 {t : Nat}  (h : Walk Tryd.prog ops Q C dr (keepH dr (i, o, ⟨fpO (AS.ev ⟨tm, hp, gn, us, L⟩) o, [], [], x⟩) H) r ⟨upd tm t x, hp, gn, us, L⟩) (hop : ops[i]? = some o := by exact rfl) (hd : o.dst = some t := by exact rfl) (ht : Nat.blt t L = true := by exact rfl) (hg : gw ops tm o = some true := by exact rfl) (he : EffD Tryd.prog o (AS.ev ⟨tm, hp, gn, us, L⟩) hp 0 = some (x, .nop) := by rfl) (hc : chk dr ops i o ⟨fpO (AS.ev ⟨tm, hp, gn, us, L⟩) o, [], [], x⟩ H = true := by first | (with_reducible exact zx1) | kernel_rfl) : Walk Tryd.prog ops Q C dr H (i :: r) ⟨tm, hp, gn, us, L⟩ :=
  zd12 0 hop hd ht hg he hc h
theorem x_bs {t n k : Nat} {T e : TypeId} {parts : Array (Nat × Operand)} {zs : List AC}  (h : Walk Tryd.prog ops Q C dr (keepH dr (i, o, ⟨fpO (AS.ev ⟨tm, hp, gn, us, L⟩) o, [(t, some ⟨e, k, n, false, zs⟩)], [t], .c (.sl t n)⟩) H) r ⟨upd tm t (.c (.sl t n)), upd hp t (some ⟨e, k, n, false, zs⟩), gn, t :: us, L⟩) (hop : ops[i]? = some o := by exact rfl) (ho : o.op = .buildSlice T n parts := by exact rfl) (hd : o.dst = some t := by exact rfl) (ht : Nat.blt t L = true := by exact rfl) (hg : gw ops tm o = some true := by exact rfl) (hf : (Nat.ble gn t && !us.contains t) = true := by exact rfl) (hT : sliT Tryd.prog T = some (e, k) := by first | exact (rfl : _ = some ((5 : Nat), (1 : Nat))) | exact (rfl : _ = some ((31 : Nat), (3 : Nat))) | exact (rfl : _ = some ((9 : Nat), (1 : Nat))) | exact (rfl : _ = some ((3 : Nat), (1 : Nat)))) (hz : catP k 0 (parts.toList.map fun p => (p.1, AS.ev ⟨tm, hp, gn, us, L⟩ p.2)) = some zs := by rfl) (hn : n = parts.toList.length := by rfl) (hb : (Nat.ble (n * k) 16777216 && Nat.ble n 16777216) = true := by rfl) (hc : chk dr ops i o ⟨fpO (AS.ev ⟨tm, hp, gn, us, L⟩) o, [(t, some ⟨e, k, n, false, zs⟩)], [t], .c (.sl t n)⟩ H = true := by first | (with_reducible exact zx1) | kernel_rfl) : Walk Tryd.prog ops Q C dr H (i :: r) ⟨tm, hp, gn, us, L⟩ :=
  v_bs hop ho hd ht hg hf hT hz hn hb hc h
theorem x_gr {t : Nat} {rw : Row}  (h : Walk Tryd.prog ops Q C dr (keepH dr (i, o, ⟨fpO (AS.ev ⟨tm, hp, gn, us, L⟩) o, [(t, some rw)], [t], x⟩) H) r ⟨upd tm t x, upd hp t (some rw), gn, t :: us, L⟩) (hop : ops[i]? = some o := by exact rfl) (hd : o.dst = some t := by exact rfl) (ht : Nat.blt t L = true := by exact rfl) (hg : gw ops tm o = some true := by exact rfl) (hf : (Nat.ble gn t && !us.contains t) = true := by exact rfl) (he : EffD Tryd.prog o (AS.ev ⟨tm, hp, gn, us, L⟩) hp t = some (x, .gr t rw) := by rfl) (hc : chk dr ops i o ⟨fpO (AS.ev ⟨tm, hp, gn, us, L⟩) o, [(t, some rw)], [t], x⟩ H = true := by first | (with_reducible exact zx1) | kernel_rfl) : Walk Tryd.prog ops Q C dr H (i :: r) ⟨tm, hp, gn, us, L⟩ :=
  v_gr hop hd ht hg hf he hc h
theorem x_st {j : Nat} {rw : Row}  (h : Walk Tryd.prog ops Q C dr (keepH dr (i, o, ⟨fpO (AS.ev ⟨tm, hp, gn, us, L⟩) o, [(j, some rw)], [], x⟩) H) r ⟨tm, upd hp j (some rw), gn, us, L⟩) (hop : ops[i]? = some o := by exact rfl) (hd : o.dst = none := by exact rfl) (hg : gw ops tm o = some true := by exact rfl) (he : EffD Tryd.prog o (AS.ev ⟨tm, hp, gn, us, L⟩) hp 0 = some (x, .st j rw) := by rfl) (hc : chk dr ops i o ⟨fpO (AS.ev ⟨tm, hp, gn, us, L⟩) o, [(j, some rw)], [], x⟩ H = true := by first | (with_reducible exact zx1) | kernel_rfl) : Walk Tryd.prog ops Q C dr H (i :: r) ⟨tm, hp, gn, us, L⟩ :=
  w_st hop hd hg he hc h
theorem x_mv {t : Nat} {j : Nat} {rw : Row}  (h : Walk Tryd.prog ops Q C dr (keepH dr (i, o, ⟨fpO (AS.ev ⟨tm, hp, gn, us, L⟩) o, [(j, none), (t, some rw)], [t], x⟩) H) r ⟨upd tm t x, upd (upd hp j none) t (some rw), gn, t :: us, L⟩) (hop : ops[i]? = some o := by exact rfl) (hd : o.dst = some t := by exact rfl) (ht : Nat.blt t L = true := by exact rfl) (hg : gw ops tm o = some true := by exact rfl) (hf : (Nat.ble gn t && !us.contains t) = true := by exact rfl) (he : EffD Tryd.prog o (AS.ev ⟨tm, hp, gn, us, L⟩) hp t = some (x, .mv j t rw) := by rfl) (hc : chk dr ops i o ⟨fpO (AS.ev ⟨tm, hp, gn, us, L⟩) o, [(j, none), (t, some rw)], [t], x⟩ H = true := by first | (with_reducible exact zx1) | kernel_rfl) : Walk Tryd.prog ops Q C dr H (i :: r) ⟨tm, hp, gn, us, L⟩ :=
  v_mv hop hd ht hg hf he hc h
theorem x_sk {t : Nat}  (h : Walk Tryd.prog ops Q C dr (keepH dr (i, o, infSkip) H) r ⟨upd tm t (.tu []), hp, gn, us, L⟩) (hop : ops[i]? = some o := by exact rfl) (hd : o.dst = some t := by exact rfl) (ht : Nat.blt t L = true := by exact rfl) (hg : gw ops tm o = some false := by exact rfl) (hc : chk dr ops i o infSkip H = true := by first | (with_reducible exact zx1) | kernel_rfl) : Walk Tryd.prog ops Q C dr H (i :: r) ⟨tm, hp, gn, us, L⟩ :=
  zy19 hop hd ht hg hc h
theorem zi10   (h : Walk Tryd.prog ops Q C dr (keepH dr (i, o, infSkip) H) r ⟨tm, hp, gn, us, L⟩) (hop : ops[i]? = some o := by exact rfl) (hd : o.dst = none := by exact rfl) (hg : gw ops tm o = some false := by exact rfl) (hc : chk dr ops i o infSkip H = true := by first | (with_reducible exact zx1) | kernel_rfl) : Walk Tryd.prog ops Q C dr H (i :: r) ⟨tm, hp, gn, us, L⟩ :=
  zh18 hop hd hg hc h
theorem x_ix {t n k j : Nat} {l : List E} {e : E} {kd : IntKind} {z : Int} {T : TypeId} {xo io : Operand}  (h : Walk Tryd.prog ops Q C dr (keepH dr (i, o, ⟨fpO (AS.ev ⟨tm, hp, gn, us, L⟩) o, [], [], .c (.rp (acE e) 0)⟩) H) r ⟨upd tm t (.c (.rp (acE e) 0)), hp, gn, us, L⟩) (hop : ops[i]? = some o := by exact rfl) (ho : o.op = .indexAddr T xo io := by exact rfl) (hd : o.dst = some t := by exact rfl) (ht : Nat.blt t L = true := by exact rfl) (hg : gw ops tm o = some true := by exact rfl) (hx : AS.ev ⟨tm, hp, gn, us, L⟩ xo = .c (.ro n k (acL l)) := by exact rfl) (hi : AS.ev ⟨tm, hp, gn, us, L⟩ io = .c (.v (.int kd z)) := by exact rfl) (hT : eltB Tryd.prog T k = true := by exact rfl) (hz : z = (j : Int) := by first | rfl | omega | assumption) (hn : n = l.length := by exact rfl) (hk : ∀ e ∈ l, e.enc.length = k := by assumption) (he : l[j]? = some e := by assumption) (hc : chk dr ops i o ⟨fpO (AS.ev ⟨tm, hp, gn, us, L⟩) o, [], [], .c (.rp (acE e) 0)⟩ H = true := by first | (with_reducible exact zx1) | kernel_rfl) : Walk Tryd.prog ops Q C dr H (i :: r) ⟨tm, hp, gn, us, L⟩ :=
  zg21 hop ho hd ht hg hx hi hT hz hn hk he hc h
theorem zj10 {t n k j s : Nat} {rw : Row} {kd : IntKind} {z : Int} {T : TypeId} {xo io : Operand}  (h : Walk Tryd.prog ops Q C dr (keepH dr (i, o, ⟨fpO (AS.ev ⟨tm, hp, gn, us, L⟩) o, [], [], .c (.pt s (j * k))⟩) H) r ⟨upd tm t (.c (.pt s (j * k))), hp, gn, us, L⟩) (hop : ops[i]? = some o := by exact rfl) (ho : o.op = .indexAddr T xo io := by exact rfl) (hd : o.dst = some t := by exact rfl) (ht : Nat.blt t L = true := by exact rfl) (hg : gw ops tm o = some true := by exact rfl) (hx : AS.ev ⟨tm, hp, gn, us, L⟩ xo = .c (.sl s n) := by exact rfl) (hi : AS.ev ⟨tm, hp, gn, us, L⟩ io = .c (.v (.int kd z)) := by exact rfl) (hr : hp s = some rw := by exact rfl) (hb : rw.box = false := by exact rfl) (hn : rw.n = n := by exact rfl) (hk : rw.k = k := by exact rfl) (hT : eltB Tryd.prog T k = true := by rfl) (hz : z = (j : Int) := by first | rfl | omega | assumption) (hj : j < n := by first | assumption | omega) (hc : chk dr ops i o ⟨fpO (AS.ev ⟨tm, hp, gn, us, L⟩) o, [], [], .c (.pt s (j * k))⟩ H = true := by first | (with_reducible exact zx1) | kernel_rfl) : Walk Tryd.prog ops Q C dr H (i :: r) ⟨tm, hp, gn, us, L⟩ :=
  zb20 hop ho hd ht hg hx hi hr hb hn hk hT hz hj hc h
theorem zk10 {s off : Nat} {RT : TypeId} {Rk Rn : Nat} {Rb : Bool} {Rc : List AC} {T : TypeId} {p y : Operand} {cs : List AC}  (h : Walk Tryd.prog ops Q C dr (keepH dr (i, o, ⟨fpO (AS.ev ⟨tm, hp, gn, us, L⟩) o, [(s, some (⟨RT, Rk, Rn, Rb, spl Rc off cs⟩ : Row))], [], .c .un⟩) H) r ⟨tm, upd hp s (some (⟨RT, Rk, Rn, Rb, spl Rc off cs⟩ : Row)), gn, us, L⟩) (hop : ops[i]? = some o := by exact rfl) (ho : o.op = .store T p y := by exact rfl) (hd : o.dst = none := by exact rfl) (hg : gw ops tm o = some true := by exact rfl) (hx : AS.ev ⟨tm, hp, gn, us, L⟩ p = .c (.pt s off) := by exact rfl) (hr : hp s = some ⟨RT, Rk, Rn, Rb, Rc⟩ := by exact rfl) (hy : (AS.ev ⟨tm, hp, gn, us, L⟩ y).cells = some cs := by exact rfl) (hT : (Tryd.prog.info? T).map (·.size) = some cs.length := by exact rfl) (hnu : cs.all noUn = true := by exact rfl) (hle : off + cs.length ≤ Rc.length := by assumption) (hc : chk dr ops i o ⟨fpO (AS.ev ⟨tm, hp, gn, us, L⟩) o, [(s, some (⟨RT, Rk, Rn, Rb, spl Rc off cs⟩ : Row))], [], .c .un⟩ H = true := by first | (with_reducible exact zx1) | kernel_rfl) : Walk Tryd.prog ops Q C dr H (i :: r) ⟨tm, hp, gn, us, L⟩ :=
  zh21 hop ho hd hg hx hr hy hT hnu hle hc h
theorem zd8 {t j n m k nm : Nat} {rw : Row} {e T T2 : TypeId} {xo yo : Operand} {ys zs : List AC}  (h : Walk Tryd.prog ops Q C dr (keepH dr (i, o, ⟨fpO (AS.ev ⟨tm, hp, gn, us, L⟩) o, [(j, none), (t, some ⟨e, k, nm, false, zs⟩)], [t], .c (.sl t nm)⟩) H) r ⟨upd tm t (.c (.sl t nm)), upd (upd hp j none) t (some ⟨e, k, nm, false, zs⟩), gn, t :: us, L⟩) (hop : ops[i]? = some o := by exact rfl) (ho : o.op = .call ⟨.builtin .append, #[xo, yo], #[T, T2]⟩ := by exact rfl) (hd : o.dst = some t := by exact rfl) (ht : Nat.blt t L = true := by exact rfl) (hg : gw ops tm o = some true := by exact rfl) (hf : (Nat.ble gn t && !us.contains t) = true := by exact rfl) (hx : AS.ev ⟨tm, hp, gn, us, L⟩ xo = .c (.sl j n) := by exact rfl) (hr : hp j = some rw := by exact rfl) (hT : appB Tryd.prog T T2 = some (e, k) := by first | exact (rfl : _ = some ((5 : Nat), (1 : Nat))) | exact (rfl : _ = some ((31 : Nat), (3 : Nat))) | exact (rfl : _ = some ((9 : Nat), (1 : Nat))) | exact (rfl : _ = some ((3 : Nat), (1 : Nat)))) (hy : srcOf hp k (AS.ev ⟨tm, hp, gn, us, L⟩ yo) = some (m, ys) := by first | rfl | exact zb5 rfl rfl rfl rfl) (hnu : ys.all noUn = true := by first | rfl | exact zs4 _) (hr1 : rw.T = e := by exact rfl) (hr2 : rw.k = k := by exact rfl) (hr3 : rw.n = n := by exact rfl) (hr4 : rw.box = false := by exact rfl) (hsz : n + m ≤ 4294967296 := by omega) (hnm : n + m = nm := by first | exact Nat.zero_add _ | rfl) (hz : rw.cs ++ ys = zs := by first | exact List.nil_append _ | rfl) (hc : chk dr ops i o ⟨fpO (AS.ev ⟨tm, hp, gn, us, L⟩) o, [(j, none), (t, some ⟨e, k, nm, false, zs⟩)], [t], .c (.sl t nm)⟩ H = true := by first | (with_reducible exact zx1) | kernel_rfl) : Walk Tryd.prog ops Q C dr H (i :: r) ⟨tm, hp, gn, us, L⟩ :=
  zj21 hop ho hd ht hg hf hx hr hT hy hnu hr1 hr2 hr3 hr4 hsz hnm hz hc h
theorem zw5 {t m k : Nat} {e T T2 : TypeId} {xo yo : Operand} {ys : List AC}  (h : Walk Tryd.prog ops Q C dr (keepH dr (i, o, ⟨fpO (AS.ev ⟨tm, hp, gn, us, L⟩) o, [(t, some ⟨e, k, m, false, ys⟩)], [t], .c (.sl t m)⟩) H) r ⟨upd tm t (.c (.sl t m)), upd hp t (some ⟨e, k, m, false, ys⟩), gn, t :: us, L⟩) (hop : ops[i]? = some o := by exact rfl) (ho : o.op = .call ⟨.builtin .append, #[xo, yo], #[T, T2]⟩ := by exact rfl) (hd : o.dst = some t := by exact rfl) (ht : Nat.blt t L = true := by exact rfl) (hg : gw ops tm o = some true := by exact rfl) (hf : (Nat.ble gn t && !us.contains t) = true := by exact rfl) (hx : AS.ev ⟨tm, hp, gn, us, L⟩ xo = .c (.v (.slice none 0 0)) := by exact rfl) (hT : appB Tryd.prog T T2 = some (e, k) := by first | exact (rfl : _ = some ((5 : Nat), (1 : Nat))) | exact (rfl : _ = some ((31 : Nat), (3 : Nat))) | exact (rfl : _ = some ((9 : Nat), (1 : Nat))) | exact (rfl : _ = some ((3 : Nat), (1 : Nat)))) (hy : srcOf hp k (AS.ev ⟨tm, hp, gn, us, L⟩ yo) = some (m, ys) := by first | rfl | exact zb5 rfl rfl rfl rfl) (hnu : ys.all noUn = true := by first | rfl | exact zs4 _) (hsz : m ≤ 4294967296 := by omega) (hc : chk dr ops i o ⟨fpO (AS.ev ⟨tm, hp, gn, us, L⟩) o, [(t, some ⟨e, k, m, false, ys⟩)], [t], .c (.sl t m)⟩ H = true := by first | (with_reducible exact zx1) | kernel_rfl) : Walk Tryd.prog ops Q C dr H (i :: r) ⟨tm, hp, gn, us, L⟩ :=
  ze20 hop ho hd ht hg hf hx hT hy hnu hsz hc h
theorem x_ld {t s off : Nat} {rw : Row} {T : TypeId} {p : Operand} {cs : List AC}  (h : Walk Tryd.prog ops Q C dr (keepH dr (i, o, ⟨fpO (AS.ev ⟨tm, hp, gn, us, L⟩) o, [], [], x⟩) H) r ⟨upd tm t x, hp, gn, us, L⟩) (hop : ops[i]? = some o := by exact rfl) (ho : o.op = .load T p := by exact rfl) (hd : o.dst = some t := by exact rfl) (ht : Nat.blt t L = true := by exact rfl) (hg : gw ops tm o = some true := by rfl) (hx : AS.ev ⟨tm, hp, gn, us, L⟩ p = .c (.pt s off) := by exact rfl) (hr : hp s = some rw := by exact rfl) (hs : subL rw.cs off (Tryd.prog.cellsOf T) = cs := by assumption) (hm : mkAV Tryd.prog T cs = some x := by rfl) (hc : chk dr ops i o ⟨fpO (AS.ev ⟨tm, hp, gn, us, L⟩) o, [], [], x⟩ H = true := by first | (with_reducible exact zx1) | kernel_rfl) : Walk Tryd.prog ops Q C dr H (i :: r) ⟨tm, hp, gn, us, L⟩ :=
  w_ld hop ho hd ht hg hx hr hs hm hc h
end
theorem zv1 {hp : Nat → Option Row} {v : Value} : clV hp (.c (.v v)) = some (.c (.v v), hp) := rfl
section
variable {tm : Nat → AV} {hp : Nat → Option Row} {gn L : Nat} {us : List Nat}
end
section
variable {P : Program} {fn : Func} {Post : AV → List (List AC) → Prop} {σ : AS} {hp' : Nat → Option Row}
end
end Go.Proofs.YtnlgmojciplnoaaDoor
