/- The type Slot, and slices of it: shape; the laws' own functions. -/
import Derived.Test.YtfemkmnkofgaaaaDoorTextAtN
namespace Go.Proofs.YtfemkmnkofgaaaaDoor
open Go.RowKit
theorem zg2 {e : E} (h : e.Ty Tryd.prog 60) : ∃ (x0 : Bool) (x1 : Int), e = (E.agg [.bool x0, .int .i64 x1]) ∧ ((Lit.int .i64 x1).wf = true) ∧ True := by
  obtain ⟨fs, rfl, q0⟩ := h.agg_ Tryd.underlying60
  change E.TyF _ _ [4, 3] at q0
  obtain ⟨e0, r0, rfl, h0, q1⟩ := q0.cons_
  obtain ⟨e1, r1, rfl, h1, q2⟩ := q1.cons_
  obtain rfl := q2.nil_
  obtain ⟨x0, rfl⟩ := h0.bool_ Tryd.underlying4
  obtain ⟨x1, rfl, gx1⟩ := h1.int_ Tryd.underlying3
  exact ⟨x0, x1, rfl, gx1, trivial⟩
theorem zc1 {e : E} (h : e.Ty Tryd.prog 72) : ∃ (x0 : Bool) (x1 : Int), e = (E.agg [.bool x0, .int .i64 x1]) ∧ ((Lit.int .i64 x1).wf = true) ∧ True := by
  obtain ⟨fs, rfl, q0⟩ := h.agg_ Tryd.underlying72
  change E.TyF _ _ [4, 3] at q0
  obtain ⟨e0, r0, rfl, h0, q1⟩ := q0.cons_
  obtain ⟨e1, r1, rfl, h1, q2⟩ := q1.cons_
  obtain rfl := q2.nil_
  obtain ⟨x0, rfl⟩ := h0.bool_ Tryd.underlying4
  obtain ⟨x1, rfl, gx1⟩ := h1.int_ Tryd.underlying3
  exact ⟨x0, x1, rfl, gx1, trivial⟩
set_option maxRecDepth 100000 in
set_option maxHeartbeats 1000000 in
theorem szSlotS_all' (A : Option Addr) (c : Nat) (l : List E) (ht : ∀ y ∈ l, y.Ty Tryd.prog 60) : Sz 139 (.lst 2 60 A c l) := by
  intro left w hr h0 h1
  have hs := hr.sl
  have hlen := hs.len_le
  have HSZ : Hid ((E.lst 2 60 A c l).sz = l.length + E.szL l) := rfl
  change Calls _ _ #[.slice A l.length c, .int .i64 left] w _
  have hz0 : E.szL l = 0 := E.szL_zero fun y hy => by
    obtain ⟨y0, y1, rfl, gy1, -⟩ := zg2 (ht y hy)
    rfl
  have HZ0 := Lib.hid hz0
  clear hz0
  go_enter Tryd.func139, Tryd.ntmps139
  by_cases hn : left - l.length < 0
  · go_wp2
    go_ret
    exact ⟨-1, rfl, .inl (by omega), by omega, by exact (by repeat (first | (with_reducible refine Below.setCell ?_ (by first | omega | (· simp) | (· (simp; omega))) _) | (with_reducible refine Below.alloc ?_ (by first | omega | (· simp) | (· (simp; omega))) _) | (with_reducible refine Below.drew ?_) | (with_reducible refine zk ?_ _) | (with_reducible exact Below.refl _ _) | (with_reducible assumption) | (with_reducible refine Below.trans ?_ (Below.mono (by assumption) (by first | omega | (· simp) | (· (simp; omega))))) | (with_reducible refine Below.trans ?_ (Kp.below (by assumption) (by first | omega | (· simp) | (· (simp; omega))) (by first | omega | (· simp) | (· (simp; omega)))))))⟩
  go_wp2
  go_ret
  refine ⟨_, rfl, .inr ?_, by omega, by exact (by repeat (first | (with_reducible refine Below.setCell ?_ (by first | omega | (· simp) | (· (simp; omega))) _) | (with_reducible refine Below.alloc ?_ (by first | omega | (· simp) | (· (simp; omega))) _) | (with_reducible refine Below.drew ?_) | (with_reducible refine zk ?_ _) | (with_reducible exact Below.refl _ _) | (with_reducible assumption) | (with_reducible refine Below.trans ?_ (Below.mono (by assumption) (by first | omega | (· simp) | (· (simp; omega))))) | (with_reducible refine Below.trans ?_ (Kp.below (by assumption) (by first | omega | (· simp) | (· (simp; omega))) (by first | omega | (· simp) | (· (simp; omega)))))))⟩
  show _ = _
  rw [HSZ.out, HZ0.out]
  push_cast
  omega
theorem zl9 {e : E} (ht : e.Ty Tryd.prog 154) : Sz 139 e := by
  obtain ⟨A, c, l, rfl, h1, _⟩ := ht.lst_ Tryd.underlying154 (k := 2) (by kernel_rfl)
  exact szSlotS_all' A c l h1
set_option maxRecDepth 100000 in
set_option maxHeartbeats 1000000 in
theorem zf4 {e : E} (ht : e.Ty Tryd.prog 60) : To 31 72 e := by
  have HT0 := Lib.hid ht
  obtain ⟨x0, x1, rfl, gx1, -⟩ := zg2 ht
  intro w hr hsz
  have hsz' : (0 + (0 + 0)) ≤ 1048576 := hsz
  clear hsz hsz'
  change Calls _ _ #[.agg #[.bool x0, .int .i64 x1]] w _
  go_enter Tryd.func31, Tryd.ntmps31
  go_wp2
  refine bodyPost_ret (v := .agg #[.bool x0, .int .i64 x1]) (by simp [results, Tryd.results31, go_sem]) rfl ⟨(E.agg [.bool x0, .int .i64 x1]), rfl, rfl, E.Ty.mk_agg Tryd.underlying72 (E.TyF.mk_cons (show E.Ty _ _ _ from Tryd.underlying4) (E.TyF.mk_cons (show E.Ty _ _ _ from ⟨Tryd.underlying3, gx1⟩) (E.TyF.mk_nil))), ?_, ?_, by exact (by repeat (first | (with_reducible refine Below.setCell ?_ (by first | omega | (· simp) | (· (simp; omega))) _) | (with_reducible refine Below.alloc ?_ (by first | omega | (· simp) | (· (simp; omega))) _) | (with_reducible refine Below.drew ?_) | (with_reducible refine zk ?_ _) | (with_reducible exact Below.refl _ _) | (with_reducible assumption) | (with_reducible refine Below.trans ?_ (Below.mono (by assumption) (by first | omega | (· simp) | (· (simp; omega))))) | (with_reducible refine Below.trans ?_ (Kp.below (by assumption) (by first | omega | (· simp) | (· (simp; omega))) (by first | omega | (· simp) | (· (simp; omega)))))))⟩
  · simp [E.Ho, E.HoL]
  · simp [E.fp, E.fpL]
theorem za14 : (Tryd.prog.info? 72).map (fun i => (i.zero, i.size, i.bytes)) = some (some (.agg #[.bool false, .int .i64 0]), 2, 16) := by kernel_rfl
set_option maxRecDepth 100000 in
set_option maxHeartbeats 1000000 in
theorem toSlotS_all' (A : Option Addr) (c : Nat) (l : List E) (h1 : ∀ y ∈ l, y.Ty Tryd.prog 60) : To 144 165 (.lst 2 60 A c l) := by
  intro w hr hsz
  have hs := hr.sl
  have eS : (E.lst 2 60 A c l).sz = l.length + E.szL l := rfl
  have hn : l.length ≤ 1048576 := by omega
  have HS := Lib.hid (show l.length + E.szL l ≤ 1048576 by omega)
  clear eS hsz
  have hmk := zm5 Tryd.underlying165 za14 l.length (by omega) (by omega)
  have hF := Fill.new w 72 #[.bool false, .int .i64 0] (l.length * 2) ([] : List Value)
  change Calls _ _ #[.slice A l.length c] w _
  go_enter Tryd.func144, Tryd.ntmps144
  go_wp2
  go_loopw [4] (fun i wr => ∃ (k : Nat) (us : List E), k ≤ l.length ∧ i = .int .i64 k ∧ Hid (us.length = k) ∧ Hid (us.map E.d = (l.take k).map E.d) ∧ Hid (∀ u ∈ us, u.Ty Tryd.prog 72 ∧ u.enc.length = 2) ∧ Fill wr w.heap.size 72 (l.length * 2) (k * 2) (E.encL us) ∧ w.heap.size + 1 ≤ wr.heap.size ∧ Hid (∀ u ∈ us, u.Ho wr (w.heap.size + 1) wr.heap.size) ∧ Hid ((E.fpL us).Nodup) ∧ Below w.heap.size w wr) (fun i _ => l.length - (intOf i).toNat)
  case atStart => exact ⟨0, [], Nat.zero_le _, rfl, rfl, rfl, (fun u hu => absurd hu List.not_mem_nil), by exact hF, by simp, (fun u hu => absurd hu List.not_mem_nil), (by show List.Nodup _; simp [E.fpL]), by exact (by repeat (first | (with_reducible refine Below.setCell ?_ (by first | omega | (· simp) | (· (simp; omega))) _) | (with_reducible refine Below.alloc ?_ (by first | omega | (· simp) | (· (simp; omega))) _) | (with_reducible refine Below.drew ?_) | (with_reducible refine zk ?_ _) | (with_reducible exact Below.refl _ _) | (with_reducible assumption) | (with_reducible refine Below.trans ?_ (Below.mono (by assumption) (by first | omega | (· simp) | (· (simp; omega))))) | (with_reducible refine Below.trans ?_ (Kp.below (by assumption) (by first | omega | (· simp) | (· (simp; omega))) (by first | omega | (· simp) | (· (simp; omega)))))))⟩
  case round =>
    obtain ⟨k, us, hk, rfl, HL, HD, HT, hf, hge, HO, HN, hb⟩ := hrel
    by_cases hlt : k < l.length
    · have hs' := hs.below hb (Nat.le_refl _)
      have hzb := hb.size
      have hmem := List.getElem_mem hlt
      have hin := (hr.el hmem).below hb (Nat.le_refl _)
      have H := zf4 (h1 _ hmem)
      have hsk : l[k].sz ≤ 1048576 := by have := E.szL_mem hmem; have := HS.out; omega
      obtain ⟨b, o, rfl, _, hc⟩ := hs'.at_ hlt
      obtain ⟨y0, y1, ex, gy1, -⟩ := zg2 (h1 _ hmem)
      have HEX := Lib.hid ex
      rw [ex] at hc hin H hsk
      clear ex
      have c0 := hc 0 _ rfl; have c1 := hc 1 _ rfl
      rw [Nat.add_zero] at c0
      clear hc
      have HF := Lib.hid hf
      clear hf
      go_wp2_with fail
      go_at_call 31
      refine (H _ hin hsk).mono ?_; rintro e w1 ⟨x, he, HDX, htx, hox, hnx, hb1⟩
      have HTX := Lib.hid htx
      obtain ⟨z0, z1, rfl, gz1, -⟩ := zc1 htx
      obtain rfl : e = .returned (.agg #[.bool z0, .int .i64 z1]) := he
      have hf1 := HF.out.below hb1 HF.out.lt
      obtain ⟨u0, c0'⟩ := hf1.cell (j := k * 2) (by omega); obtain ⟨u1, c1'⟩ := hf1.cell (j := k * 2 + 1) (by omega)
      have zfr := hf1.frozen
      have hz1 := hb1.size
      have HOX := Lib.hid hox
      have HNX := Lib.hid hnx
      have HF1 := Lib.hid hf1
      clear hox hnx hf1 htx
      go_wp2
      go_roundw
      case rel =>
        have hl := HL.out
        have hf1 := HF1.out
        have hT : ∀ u ∈ us ++ [(E.agg [.bool z0, .int .i64 z1])], u.Ty Tryd.prog 72 ∧ u.enc.length = 2 := fun u hu => by
          rcases List.mem_append.1 hu with hu | hu
          · exact HT.out u hu
          · obtain rfl := List.mem_singleton.1 hu
            exact ⟨HTX.out, rfl⟩
        have hlen := E.encL_len fun u hu => (HT.out u hu).2
        have hk2 : k < (us ++ [(E.agg [.bool z0, .int .i64 z1])]).length := by simp; omega
        have ev := fun j hj => E.encL_at (fun u hu => (hT u hu).2) k hk2 j hj
        have eT : (us ++ [(E.agg [.bool z0, .int .i64 z1])])[k] = (E.agg [.bool z0, .int .i64 z1]) := by rw [List.getElem_append_right (by omega)]; simp [hl]
        simp only [eT] at ev
        have hf2 : Fill w1 w.heap.size 72 (l.length * 2) (k * 2) (E.encL (us ++ [(E.agg [.bool z0, .int .i64 z1])])) := hf1.swap' fun j hj => E.encL_app_lt us _ j (by rw [hlen, hl]; exact hj)
        have K := fun (W : World) (h : Kp w.heap.size (w.heap.size + 1) w1 W) (u : E) (hu : u ∈ us) => ((HO.out u hu).below hb1 (Nat.le_refl _)).kp h (.inr (by omega))
        refine ⟨k + 1, us ++ [(E.agg [.bool z0, .int .i64 z1])], by omega, by go_num, by show _ = _; simp [hl], zw4 hlt HD.out (HDX.out.trans (by rw [← HEX.out])), hT, by rw [Nat.add_mul]; exact ((hf2.set (by omega) (ev 0 (by omega))).set (by omega) (ev 1 (by omega))), by simp; omega, ?_, ?_, by exact (by repeat (first | (with_reducible refine Below.setCell ?_ (by first | omega | (· simp) | (· (simp; omega))) _) | (with_reducible refine Below.alloc ?_ (by first | omega | (· simp) | (· (simp; omega))) _) | (with_reducible refine Below.drew ?_) | (with_reducible refine zk ?_ _) | (with_reducible exact Below.refl _ _) | (with_reducible assumption) | (with_reducible refine Below.trans ?_ (Below.mono (by assumption) (by first | omega | (· simp) | (· (simp; omega))))) | (with_reducible refine Below.trans ?_ (Kp.below (by assumption) (by first | omega | (· simp) | (· (simp; omega))) (by first | omega | (· simp) | (· (simp; omega)))))))⟩
        · intro u hu
          rcases List.mem_append.1 hu with hu | hu
          · exact (K _ (by repeat (first | (with_reducible exact Kp.refl _ _ _) | (refine Kp.set ?_ (by first | omega | (dsimp only; omega) | (simp; omega)) (by first | omega | (dsimp only; omega) | (simp; omega)) _))) u hu).wider (Nat.le_refl _) (by simp; omega)
          · obtain rfl := List.mem_singleton.1 hu
            exact (HOX.out.kp (lo' := w.heap.size) (hi' := w.heap.size + 1) (by repeat (first | (with_reducible exact Kp.refl _ _ _) | (refine Kp.set ?_ (by first | omega | (dsimp only; omega) | (simp; omega)) (by first | omega | (dsimp only; omega) | (simp; omega)) _))) (.inr (by omega))).wider (by omega) (by simp)
        · refine zi2 HN.out HNX.out fun g hg hg2 => ?_
          obtain ⟨u, hu, hg⟩ := E.mem_fpL.1 hg
          have := (HO.out u hu).lt g hg
          have := HOX.out.lt g hg2
          omega
      case measure => simp [intOf]; omega
    · have hk' : k = l.length := by omega
      subst hk'
      go_wp2
      go_ret
      have hl := HL.out
      have hTy := HT.out
      have own : wr.ownsRow w.heap.size 72 2 (.slice (some ⟨w.heap.size, 0, none⟩) l.length l.length) l.length (E.encL us) := hf.owns (Nat.le_refl _) rfl (by rw [E.encL_len fun u hu => (hTy u hu).2, hl]) (by unfold maxLen; omega)
      rw [← hl] at own
      refine ⟨.lst 2 72 (some ⟨w.heap.size, 0, none⟩) us.length us, by rw [← hl]; rfl, ?_, E.Ty.mk_lst Tryd.underlying165 (by kernel_rfl) (fun u hu => (hTy u hu).1) (fun u hu => (hTy u hu).2), E.Ho.mk (Ow.of_owns own (Nat.le_refl _)) (fun u hu => (hTy u hu).2) (fun u hu => (HO.out u hu).wider (by omega) (Nat.le_refl _)), ?_, hb⟩
      · show E.d _ = E.d _
        rw [za3]
        have h := HD.out
        rwa [List.take_length] at h
      · simp only [E.fp, List.singleton_append, List.nodup_cons]
        refine ⟨fun hm => ?_, HN.out⟩
        obtain ⟨u, hu, hg⟩ := E.mem_fpL.1 hm
        have := (HO.out u hu).lt _ hg
        omega
theorem zm9 {e : E} (ht : e.Ty Tryd.prog 154) : To 144 165 e := by
  obtain ⟨A, c, l, rfl, h1, _⟩ := ht.lst_ Tryd.underlying154 (k := 2) (by kernel_rfl)
  exact toSlotS_all' A c l h1
set_option maxRecDepth 100000 in
set_option maxHeartbeats 1000000 in
theorem zn11 {e e' : E} (ht : e.Ty Tryd.prog 72) (ht' : e'.Ty Tryd.prog 72) : Eq 169 e e' := by
  obtain ⟨x0, x1, rfl, gx1, -⟩ := zc1 ht
  obtain ⟨y0, y1, rfl, gy1, -⟩ := zc1 ht'
  intro hd w hr hr'
  simp only [E.d, E.dL, E.agg.injEq, List.cons.injEq, E.int.injEq, E.str.injEq, E.bool.injEq, E.lst.injEq, true_and, and_true] at hd
  obtain ⟨rfl, rfl⟩ := hd
  change Calls _ _ #[.agg #[.bool x0, .int .i64 x1], .agg #[.bool x0, .int .i64 x1]] w _
  go_enter Tryd.func169, Tryd.ntmps169
  go_wp2
  go_ret
  exact ⟨rfl, (by repeat (first | (with_reducible refine Below.setCell ?_ (by first | omega | (· simp) | (· (simp; omega))) _) | (with_reducible refine Below.alloc ?_ (by first | omega | (· simp) | (· (simp; omega))) _) | (with_reducible refine Below.drew ?_) | (with_reducible refine zk ?_ _) | (with_reducible exact Below.refl _ _) | (with_reducible assumption) | (with_reducible refine Below.trans ?_ (Below.mono (by assumption) (by first | omega | (· simp) | (· (simp; omega))))) | (with_reducible refine Below.trans ?_ (Kp.below (by assumption) (by first | omega | (· simp) | (· (simp; omega))) (by first | omega | (· simp) | (· (simp; omega)))))))⟩
set_option maxRecDepth 100000 in
set_option maxHeartbeats 1000000 in
theorem eqSlotS_all' (A B : Option Addr) (c c' : Nat) (l m : List E) (h1 : ∀ y ∈ l, y.Ty Tryd.prog 72) (h2 : ∀ y ∈ m, y.Ty Tryd.prog 72) : Eq 149 (.lst 2 72 A c l) (.lst 2 72 B c' m) := by
  intro hd w hr hr'
  rw [za3] at hd
  have hs := hr.sl
  have hs' := hr'.sl
  have hml := zn5 hd
  have HD := Lib.hid hd
  clear hd
  have hlen := hs.len_le
  change Calls _ _ #[.slice A l.length c, .slice B m.length c'] w _
  obtain ⟨N, HN⟩ : ∃ N, Hid (m.length = N) := ⟨_, rfl⟩
  have hN : N = l.length := by have := HN.out; omega
  subst hN
  rw [HN.out]
  clear hml
  go_enter Tryd.func149, Tryd.ntmps149
  go_wp2
  go_loopw [5] (fun i wr => ∃ (k : Nat), k ≤ l.length ∧ i = .int .i64 k ∧ Below w.heap.size w wr) (fun i _ => l.length - (intOf i).toNat)
  case atStart => exact ⟨0, Nat.zero_le _, rfl, Below.refl _ _⟩
  case round =>
    obtain ⟨k, hk, rfl, hb⟩ := hrel
    by_cases hlt : k < l.length
    · have hltm : k < m.length := by have := HN.out; omega
      have hsb := hs.below hb (Nat.le_refl _)
      have hsb' := hs'.below hb (Nat.le_refl _)
      have hdk := d_at HD.out hlt hltm
      obtain ⟨b, o, rfl, _, hc⟩ := hsb.at_ hlt
      obtain ⟨b', o', rfl, _, hd⟩ := hsb'.at_ hltm
      have hin := (hr.el (List.getElem_mem hlt)).below hb (Nat.le_refl _)
      have hin' := (hr'.el (List.getElem_mem hltm)).below hb (Nat.le_refl _)
      have H := zn11 (h1 _ (List.getElem_mem hlt)) (h2 _ (List.getElem_mem hltm)) hdk
      obtain ⟨x0, x1, ex, gx1, -⟩ := zc1 (h1 _ (List.getElem_mem hlt))
      obtain ⟨y0, y1, ey, gy1, -⟩ := zc1 (h2 _ (List.getElem_mem hltm))
      rw [ex] at hc hin
      rw [ey] at hd hin'
      rw [ex, ey] at H
      clear ex ey hdk
      have c0 := hc 0 _ rfl; have c1 := hc 1 _ rfl
      have d0 := hd 0 _ rfl; have d1 := hd 1 _ rfl
      rw [Nat.add_zero] at c0 d0
      clear hc hd
      have hzb := hb.size
      have HH := Lib.hid H
      clear H
      go_wp2
      go_region_held3 (fun w' => w'.cell? ⟨b, o + k * 2, none⟩ = some (.bool x0) ∧ w'.cell? ⟨b, o + k * 2 + 1, none⟩ = some (.int .i64 x1) ∧ w'.cell? ⟨b', o' + k * 2, none⟩ = some (.bool y0) ∧ w'.cell? ⟨b', o' + k * 2 + 1, none⟩ = some (.int .i64 y1))
        (first | exact ⟨c0, c1, d0, d1⟩ | skip)
        ((go_at_call 169; refine (HH.out _ (by repeat (first | (with_reducible assumption) | (with_reducible refine E.In.drew ?_) | (with_reducible refine E.In.drewN ?_ _) | (with_reducible refine E.In.alloc ?_ _) | (refine E.In.below ?_ (by with_reducible assumption) ?_) | omega | (· simp) | (· (simp; omega)))) (by repeat (first | (with_reducible assumption) | (with_reducible refine E.In.drew ?_) | (with_reducible refine E.In.drewN ?_ _) | (with_reducible refine E.In.alloc ?_ _) | (refine E.In.below ?_ (by with_reducible assumption) ?_) | omega | (· simp) | (· (simp; omega))))).mono ?_; rintro e w1 ⟨rfl, hb1⟩; have c0 := zb hb1 c0 (by first | omega | (· simp) | (· (simp; omega))); have c1 := zb hb1 c1 (by first | omega | (· simp) | (· (simp; omega))); have d0 := zb hb1 d0 (by first | omega | (· simp) | (· (simp; omega))); have d1 := zb hb1 d1 (by first | omega | (· simp) | (· (simp; omega)))))
      go_wp2
      go_roundw
      case rel => exact ⟨k + 1, by omega, by go_num, by exact (by repeat (first | (with_reducible refine Below.setCell ?_ (by first | omega | (· simp) | (· (simp; omega))) _) | (with_reducible refine Below.alloc ?_ (by first | omega | (· simp) | (· (simp; omega))) _) | (with_reducible refine Below.drew ?_) | (with_reducible refine zk ?_ _) | (with_reducible exact Below.refl _ _) | (with_reducible assumption) | (with_reducible refine Below.trans ?_ (Below.mono (by assumption) (by first | omega | (· simp) | (· (simp; omega))))) | (with_reducible refine Below.trans ?_ (Kp.below (by assumption) (by first | omega | (· simp) | (· (simp; omega))) (by first | omega | (· simp) | (· (simp; omega)))))))⟩
      case measure => simp [intOf]; omega
    · go_wp2
      go_ret
      exact ⟨rfl, hb⟩
theorem zn9 {e e' : E} (ht : e.Ty Tryd.prog 165) (ht' : e'.Ty Tryd.prog 165) : Eq 149 e e' := by
  obtain ⟨A, c, l, rfl, h1, _⟩ := ht.lst_ Tryd.underlying165 (k := 2) (by kernel_rfl)
  obtain ⟨B, c', m, rfl, h2, _⟩ := ht'.lst_ Tryd.underlying165 (k := 2) (by kernel_rfl)
  exact eqSlotS_all' A B c c' l m h1 h2
end Go.Proofs.YtfemkmnkofgaaaaDoor
