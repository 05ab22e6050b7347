/- The type MTable, and slices of it: shape; the laws' own functions. -/
import Derived.Test.YtfemkmnkofgaaaaDoorTextAtM
namespace Go.Proofs.YtfemkmnkofgaaaaDoor
open Go.RowKit
theorem zy1 {e : E} (h : e.Ty Tryd.prog 152) : ∃ (x0A : Option Addr) (x0c : Nat) (x0l : List E), e = (E.agg [.lst 2 212 x0A x0c x0l]) ∧ ((∀ y ∈ x0l, y.Ty Tryd.prog 212) ∧ (∀ y ∈ x0l, y.enc.length = 2)) ∧ True := by
  obtain ⟨fs, rfl, q0⟩ := h.agg_ Tryd.underlying152
  change E.TyF _ _ [150] at q0
  obtain ⟨e0, r0, rfl, h0, q1⟩ := q0.cons_
  obtain rfl := q1.nil_
  obtain ⟨x0A, x0c, x0l, rfl, gx0, gx0'⟩ := h0.lst_ Tryd.underlying150 (k := 2) (by kernel_rfl)
  exact ⟨x0A, x0c, x0l, rfl, ⟨gx0, gx0'⟩, trivial⟩
theorem zo1 {e : E} (h : e.Ty Tryd.prog 163) : ∃ (x0A : Option Addr) (x0c : Nat) (x0l : List E), e = (E.agg [.lst 2 217 x0A x0c x0l]) ∧ ((∀ y ∈ x0l, y.Ty Tryd.prog 217) ∧ (∀ y ∈ x0l, y.enc.length = 2)) ∧ True := by
  obtain ⟨fs, rfl, q0⟩ := h.agg_ Tryd.underlying163
  change E.TyF _ _ [161] at q0
  obtain ⟨e0, r0, rfl, h0, q1⟩ := q0.cons_
  obtain rfl := q1.nil_
  obtain ⟨x0A, x0c, x0l, rfl, gx0, gx0'⟩ := h0.lst_ Tryd.underlying161 (k := 2) (by kernel_rfl)
  exact ⟨x0A, x0c, x0l, rfl, ⟨gx0, gx0'⟩, trivial⟩
set_option maxRecDepth 100000 in
set_option maxHeartbeats 1000000 in
theorem zx7 {e : E} (ht : e.Ty Tryd.prog 152) : Sz 116 e := by
  obtain ⟨x0A, x0c, x0l, rfl, gx0, -⟩ := zy1 ht
  intro left w hr h0 h1
  have HSZ : Hid ((E.agg [.lst 2 212 x0A x0c x0l]).sz = ((E.lst 2 212 x0A x0c x0l).sz + 0)) := rfl
  change Calls _ _ #[.agg #[.slice x0A x0l.length x0c], .int .i64 left] w _
  have hr0 := (hr.fld (i := 0) rfl).alloc (.cells #[.slice x0A x0l.length x0c] 152)
  go_enter Tryd.func116, Tryd.ntmps116
  go_wp2_with fail
  go_at_call 138
  refine ((zs6 (E.Ty.mk_lst Tryd.underlying150 (by kernel_rfl) gx0.1 gx0.2)) _ _ hr0 (by omega) (by omega)).mono ?_; rintro e w1 ⟨r1, rfl, hr1s, hl1, hb1⟩
  have hz1 := hb1.size; (try simp only [World.size_alloc] at hz1)
  by_cases hn1 : r1 < 0
  · go_wp2
    go_ret
    exact ⟨-1, rfl, .inl (by omega), by omega, by exact (by repeat (first | (with_reducible refine Below.setCell ?_ (by first | omega | (· simp) | (· (simp; omega))) _) | (with_reducible refine Below.alloc ?_ (by first | omega | (· simp) | (· (simp; omega))) _) | (with_reducible refine Below.drew ?_) | (with_reducible refine zk ?_ _) | (with_reducible exact Below.refl _ _) | (with_reducible assumption) | (with_reducible refine Below.trans ?_ (Below.mono (by assumption) (by first | omega | (· simp) | (· (simp; omega))))) | (with_reducible refine Below.trans ?_ (Kp.below (by assumption) (by first | omega | (· simp) | (· (simp; omega))) (by first | omega | (· simp) | (· (simp; omega)))))))⟩
  have hq1 := hr1s.resolve_left hn1
  go_wp2
  go_ret
  refine ⟨_, rfl, .inr ?_, by omega, by exact (by repeat (first | (with_reducible refine Below.setCell ?_ (by first | omega | (· simp) | (· (simp; omega))) _) | (with_reducible refine Below.alloc ?_ (by first | omega | (· simp) | (· (simp; omega))) _) | (with_reducible refine Below.drew ?_) | (with_reducible refine zk ?_ _) | (with_reducible exact Below.refl _ _) | (with_reducible assumption) | (with_reducible refine Below.trans ?_ (Below.mono (by assumption) (by first | omega | (· simp) | (· (simp; omega))))) | (with_reducible refine Below.trans ?_ (Kp.below (by assumption) (by first | omega | (· simp) | (· (simp; omega))) (by first | omega | (· simp) | (· (simp; omega)))))))⟩
  show _ = _
  rw [HSZ.out]
  have e1 := hq1.out
  push_cast
  omega
set_option maxRecDepth 100000 in
set_option maxHeartbeats 1000000 in
theorem szMTableS_all' (A : Option Addr) (c : Nat) (l : List E) (ht : ∀ y ∈ l, y.Ty Tryd.prog 152) : Sz 67 (.lst 1 152 A c l) := by
  intro left w hr h0 h1
  have hs := hr.sl
  have hlen := hs.len_le
  have HSZ : Hid ((E.lst 1 152 A c l).sz = l.length + E.szL l) := rfl
  change Calls _ _ #[.slice A l.length c, .int .i64 left] w _
  by_cases hneg : left - l.length < 0
  · go_enter Tryd.func67, Tryd.ntmps67
    go_wp2
    go_ret
    exact ⟨-1, rfl, .inl (by omega), by omega, by exact (by repeat (first | (with_reducible refine Below.setCell ?_ (by first | omega | (· simp) | (· (simp; omega))) _) | (with_reducible refine Below.alloc ?_ (by first | omega | (· simp) | (· (simp; omega))) _) | (with_reducible refine Below.drew ?_) | (with_reducible refine zk ?_ _) | (with_reducible exact Below.refl _ _) | (with_reducible assumption) | (with_reducible refine Below.trans ?_ (Below.mono (by assumption) (by first | omega | (· simp) | (· (simp; omega))))) | (with_reducible refine Below.trans ?_ (Kp.below (by assumption) (by first | omega | (· simp) | (· (simp; omega))) (by first | omega | (· simp) | (· (simp; omega)))))))⟩
  go_enter Tryd.func67, Tryd.ntmps67
  go_wp2
  go_loopw [1, 5] (fun v i wr => ∃ (k : Nat) (cur : Int), k ≤ l.length ∧ i = .int .i64 k ∧ v = .int .i64 cur ∧ 0 ≤ cur ∧ cur ≤ left ∧ Hid (cur + E.szL (l.take k) + l.length = left) ∧ Below w.heap.size w wr) (fun _ i _ => l.length - (intOf i).toNat)
  case atStart => exact ⟨0, _, Nat.zero_le _, rfl, rfl, by omega, by omega, (by show _ = _; simp [E.szL]), Below.refl _ _⟩
  case round =>
    obtain ⟨k, cur, hk, rfl, rfl, hc0, hc1, HQ, hb⟩ := hrel
    have hzb := hb.size
    by_cases hlt : k < l.length
    · have hs' := hs.below hb (Nat.le_refl _)
      have HT := Lib.hid (E.szL_take l k hlt)
      obtain ⟨b, o, rfl, _, hc⟩ := hs'.at_ hlt
      have hin := (hr.el (List.getElem_mem hlt)).below hb (Nat.le_refl _)
      have H := zx7 (ht _ (List.getElem_mem hlt))
      obtain ⟨y0A, y0c, y0l, ex, gy0, -⟩ := zy1 (ht _ (List.getElem_mem hlt))
      have HEX := Lib.hid ex
      rw [ex] at hc hin H
      clear ex
      have c0 := hc 0 _ rfl
      rw [Nat.add_zero] at c0
      rw [Nat.mul_one] at c0
      clear hc
      go_wp2_with fail
      go_at_call 116
      refine (H _ _ hin hc0 (by omega)).mono ?_; rintro e w1 ⟨r, rfl, hrs, hrl, hb1⟩
      by_cases hn : r < 0
      · go_wp2
        go_ret
        exact ⟨-1, rfl, .inl (by omega), by omega, by exact (by repeat (first | (with_reducible refine Below.setCell ?_ (by first | omega | (· simp) | (· (simp; omega))) _) | (with_reducible refine Below.alloc ?_ (by first | omega | (· simp) | (· (simp; omega))) _) | (with_reducible refine Below.drew ?_) | (with_reducible refine zk ?_ _) | (with_reducible exact Below.refl _ _) | (with_reducible assumption) | (with_reducible refine Below.trans ?_ (Below.mono (by assumption) (by first | omega | (· simp) | (· (simp; omega))))) | (with_reducible refine Below.trans ?_ (Kp.below (by assumption) (by first | omega | (· simp) | (· (simp; omega))) (by first | omega | (· simp) | (· (simp; omega)))))))⟩
      · have HR := hrs.resolve_left hn
        clear hrs
        go_wp2
        go_roundw
        case rel => exact ⟨k + 1, r, by omega, by go_num, rfl, by omega, by omega, (by show _ = _; have e1 := HQ.out; have e2 := HT.out; have e3 := HR.out; rw [HEX.out] at e2; omega), by exact (by repeat (first | (with_reducible refine Below.setCell ?_ (by first | omega | (· simp) | (· (simp; omega))) _) | (with_reducible refine Below.alloc ?_ (by first | omega | (· simp) | (· (simp; omega))) _) | (with_reducible refine Below.drew ?_) | (with_reducible refine zk ?_ _) | (with_reducible exact Below.refl _ _) | (with_reducible assumption) | (with_reducible refine Below.trans ?_ (Below.mono (by assumption) (by first | omega | (· simp) | (· (simp; omega))))) | (with_reducible refine Below.trans ?_ (Kp.below (by assumption) (by first | omega | (· simp) | (· (simp; omega))) (by first | omega | (· simp) | (· (simp; omega)))))))⟩
        case measure => simp [intOf]; omega
    · have hk' : k = l.length := by omega
      subst hk'
      go_wp2
      go_ret
      refine ⟨_, rfl, .inr ?_, by omega, hb⟩
      show _ = _
      have e1 := HQ.out
      rw [List.take_length] at e1
      rw [HSZ.out]
      push_cast
      omega
theorem zv6 {e : E} (ht : e.Ty Tryd.prog 52) : Sz 67 e := by
  obtain ⟨A, c, l, rfl, h1, _⟩ := ht.lst_ Tryd.underlying52 (k := 1) (by kernel_rfl)
  exact szMTableS_all' A c l h1
set_option maxRecDepth 100000 in
set_option maxHeartbeats 1000000 in
theorem zy7 {e : E} (ht : e.Ty Tryd.prog 152) : To 122 163 e := by
  have HT0 := Lib.hid ht
  obtain ⟨x0A, x0c, x0l, rfl, gx0, -⟩ := zy1 ht
  intro w hr hsz
  have hsz' : ((E.lst 2 212 x0A x0c x0l).sz + 0) ≤ 1048576 := hsz
  have hs0 : (E.lst 2 212 x0A x0c x0l).sz ≤ 1048576 := by omega
  clear hsz hsz'
  have hr0 := hr.fld (i := 0) rfl
  have ty0 : (E.lst 2 212 x0A x0c x0l).Ty Tryd.prog 150 := E.Ty.mk_lst Tryd.underlying150 (by kernel_rfl) gx0.1 gx0.2
  have HC0 := Lib.hid (zt6 ty0)
  clear ty0
  change Calls _ _ #[.agg #[.slice x0A x0l.length x0c]] w _
  go_enter Tryd.func122, Tryd.ntmps122
  go_wp2_with fail
  go_at_call 143
  refine (HC0.out _ (((hr0.alloc _).alloc _).alloc _) hs0).mono ?_; rintro e w1 ⟨v1, he, HD1, ht1, ho1, hn1, hb1⟩
  have HT1 := Lib.hid ht1
  have HN1 := Lib.hid hn1
  obtain ⟨A1, q1, l1, rfl, -, -⟩ := ht1.lst_ Tryd.underlying161 (k := 2) (by kernel_rfl)
  obtain rfl : e = .returned (.slice A1 l1.length q1) := he
  clear hn1 ht1
  have B0_1 : w1.heap[w.heap.size]? = some (.cells #[.slice x0A x0l.length x0c] 152 (0, 0)) := (hb1.block (w.heap.size) (by simp; omega)).trans zt2.1
  have B1_1 : w1.heap[w.heap.size + 1]? = some (.cells #[.slice none 0 0] 163 (0, 0)) := (hb1.block (w.heap.size + 1) (by simp)).trans zt2.2.1
  have B2_1 : w1.heap[w.heap.size + 1 + 1]? = some (.cells #[.slice none 0 0] 163 (0, 0)) := (hb1.block (w.heap.size + 1 + 1) (by simp)).trans zt2.2.2
  have hz1 := hb1.size; simp only [World.size_alloc] at hz1
  have hB1 : Below w.heap.size w w1 := (by exact (by repeat (first | (with_reducible refine Below.setCell ?_ (by first | omega | (· simp) | (· (simp; omega))) _) | (with_reducible refine Below.alloc ?_ (by first | omega | (· simp) | (· (simp; omega))) _) | (with_reducible refine Below.drew ?_) | (with_reducible refine zk ?_ _) | (with_reducible exact Below.refl _ _) | (with_reducible assumption) | (with_reducible refine Below.trans ?_ (Below.mono (by assumption) (by first | omega | (· simp) | (· (simp; omega))))) | (with_reducible refine Below.trans ?_ (Kp.below (by assumption) (by first | omega | (· simp) | (· (simp; omega))) (by first | omega | (· simp) | (· (simp; omega))))))) : Below w.heap.size w _).trans (hb1.mono (by simp; omega))
  have ho1 := ho1.wider (lo' := w.heap.size + 1 + 1 + 1) (by simp) (Nat.le_refl _)
  have c1_0 : w1.cell? ⟨w.heap.size, 0, none⟩ = some (.slice x0A x0l.length x0c) := za B0_1 rfl
  have d1_0 : w1.cell? ⟨w.heap.size + 1 + 1, 0, none⟩ = some (.slice none 0 0) := za B2_1 rfl
  have f1 := zz1 B2_1
  have r0' := za B1_1 (o := 0) rfl
  have fr' := zz1 B1_1
  go_wp2
  have OWN : Owns w1 (w.heap.size + 1 + 1 + 1) w1.heap.size [(E.lst 2 217 A1 q1 l1)] := (Owns.cons (mid := w1.heap.size) ho1 HN1.out Owns.nil (by omega) (by omega))
  refine bodyPost_ret (v := .agg #[.slice A1 l1.length q1]) (ze3 (t := 163) (fr := (0, 0)) rfl rfl Tryd.underlying163 (by kernel_rfl) ?_) rfl ⟨(E.agg [(E.lst 2 217 A1 q1 l1)]), rfl, ?_, E.Ty.mk_agg Tryd.underlying163 (E.TyF.mk_cons HT1.out (E.TyF.mk_nil)), ?_, ?_, ?_⟩
  · simp only [zp1, B1_1, B2_1]; simp [setAt]
  · show E.d _ = E.d _
    simp only [E.d, E.dL]
    have y1 := HD1.out; simp only [E.d, E.dL] at y1
    simp only [E.agg.injEq, List.cons.injEq, E.lst.injEq, E.int.injEq, E.str.injEq, E.bool.injEq, true_and, and_true] at *
    simp [*]
  · exact ((E.Ho.mk_agg OWN.1).kp (lo' := w.heap.size + 1) (hi' := w.heap.size + 1 + 1 + 1) (by repeat (first | (with_reducible exact Kp.refl _ _ _) | (refine Kp.set ?_ (by first | omega | (dsimp only; omega) | (simp; omega)) (by first | omega | (dsimp only; omega) | (simp; omega)) _))) (.inr (by omega))).wider (by omega) (by simp)
  · exact OWN.2
  · exact hB1.trans (Kp.below (lo := w.heap.size + 1) (hi := w.heap.size + 1 + 1 + 1) (by repeat (first | (with_reducible exact Kp.refl _ _ _) | (refine Kp.set ?_ (by first | omega | (dsimp only; omega) | (simp; omega)) (by first | omega | (dsimp only; omega) | (simp; omega)) _))) (by omega) (by omega))
theorem zk9 : (Tryd.prog.info? 163).map (fun i => (i.zero, i.size, i.bytes)) = some (some (.agg #[.slice none 0 0]), 1, 24) := by kernel_rfl
set_option maxRecDepth 100000 in
set_option maxHeartbeats 1000000 in
theorem toMTableS_all' (A : Option Addr) (c : Nat) (l : List E) (h1 : ∀ y ∈ l, y.Ty Tryd.prog 152) : To 74 66 (.lst 1 152 A c l) := by
  intro w hr hsz
  have hs := hr.sl
  have eS : (E.lst 1 152 A c l).sz = l.length + E.szL l := rfl
  have hn : l.length ≤ 1048576 := by omega
  have HS := Lib.hid (show l.length + E.szL l ≤ 1048576 by omega)
  clear eS hsz
  have hmk := zm5 Tryd.underlying66 zk9 l.length (by omega) (by omega)
  have hF := Fill.new w 163 #[.slice none 0 0] (l.length * 1) ([] : List Value)
  change Calls _ _ #[.slice A l.length c] w _
  go_enter Tryd.func74, Tryd.ntmps74
  go_wp2
  go_loopw [4] (fun i wr => ∃ (k : Nat) (us : List E), k ≤ l.length ∧ i = .int .i64 k ∧ Hid (us.length = k) ∧ Hid (us.map E.d = (l.take k).map E.d) ∧ Hid (∀ u ∈ us, u.Ty Tryd.prog 163 ∧ u.enc.length = 1) ∧ Fill wr w.heap.size 163 (l.length * 1) (k * 1) (E.encL us) ∧ w.heap.size + 1 ≤ wr.heap.size ∧ Hid (∀ u ∈ us, u.Ho wr (w.heap.size + 1) wr.heap.size) ∧ Hid ((E.fpL us).Nodup) ∧ Below w.heap.size w wr) (fun i _ => l.length - (intOf i).toNat)
  case atStart => exact ⟨0, [], Nat.zero_le _, rfl, rfl, rfl, (fun u hu => absurd hu List.not_mem_nil), by simp only [Nat.mul_one, Nat.zero_mul] at hF ⊢; exact hF, by simp, (fun u hu => absurd hu List.not_mem_nil), (by show List.Nodup _; simp [E.fpL]), by exact (by repeat (first | (with_reducible refine Below.setCell ?_ (by first | omega | (· simp) | (· (simp; omega))) _) | (with_reducible refine Below.alloc ?_ (by first | omega | (· simp) | (· (simp; omega))) _) | (with_reducible refine Below.drew ?_) | (with_reducible refine zk ?_ _) | (with_reducible exact Below.refl _ _) | (with_reducible assumption) | (with_reducible refine Below.trans ?_ (Below.mono (by assumption) (by first | omega | (· simp) | (· (simp; omega))))) | (with_reducible refine Below.trans ?_ (Kp.below (by assumption) (by first | omega | (· simp) | (· (simp; omega))) (by first | omega | (· simp) | (· (simp; omega)))))))⟩
  case round =>
    obtain ⟨k, us, hk, rfl, HL, HD, HT, hf, hge, HO, HN, hb⟩ := hrel
    by_cases hlt : k < l.length
    · have hs' := hs.below hb (Nat.le_refl _)
      have hzb := hb.size
      have hmem := List.getElem_mem hlt
      have hin := (hr.el hmem).below hb (Nat.le_refl _)
      have H := zy7 (h1 _ hmem)
      have hsk : l[k].sz ≤ 1048576 := by have := E.szL_mem hmem; have := HS.out; omega
      obtain ⟨b, o, rfl, _, hc⟩ := hs'.at_ hlt
      obtain ⟨y0A, y0c, y0l, ex, gy0, -⟩ := zy1 (h1 _ hmem)
      have HEX := Lib.hid ex
      rw [ex] at hc hin H hsk
      clear ex
      have c0 := hc 0 _ rfl
      rw [Nat.add_zero] at c0
      rw [Nat.mul_one] at c0
      clear hc
      have HF := Lib.hid hf
      clear hf
      go_wp2_with fail
      go_at_call 122
      refine (H _ hin hsk).mono ?_; rintro e w1 ⟨x, he, HDX, htx, hox, hnx, hb1⟩
      have HTX := Lib.hid htx
      obtain ⟨z0A, z0c, z0l, rfl, gz0, -⟩ := zo1 htx
      obtain rfl : e = .returned (.agg #[.slice z0A z0l.length z0c]) := he
      have hf1 := HF.out.below hb1 HF.out.lt
      obtain ⟨u0, c0'⟩ := hf1.cell (j := k) (by omega)
      have zfr := hf1.frozen
      have hz1 := hb1.size
      have HOX := Lib.hid hox
      have HNX := Lib.hid hnx
      have HF1 := Lib.hid hf1
      clear hox hnx hf1 htx
      go_wp2
      go_roundw
      case rel =>
        have hl := HL.out
        have hf1 := HF1.out
        have hT : ∀ u ∈ us ++ [(E.agg [.lst 2 217 z0A z0c z0l])], u.Ty Tryd.prog 163 ∧ u.enc.length = 1 := fun u hu => by
          rcases List.mem_append.1 hu with hu | hu
          · exact HT.out u hu
          · obtain rfl := List.mem_singleton.1 hu
            exact ⟨HTX.out, rfl⟩
        have hlen := E.encL_len fun u hu => (HT.out u hu).2
        have hk2 : k < (us ++ [(E.agg [.lst 2 217 z0A z0c z0l])]).length := by simp; omega
        have ev := fun j hj => E.encL_at (fun u hu => (hT u hu).2) k hk2 j hj
        have eT : (us ++ [(E.agg [.lst 2 217 z0A z0c z0l])])[k] = (E.agg [.lst 2 217 z0A z0c z0l]) := by rw [List.getElem_append_right (by omega)]; simp [hl]
        simp only [eT, Nat.mul_one] at ev
        have hf2 : Fill w1 w.heap.size 163 (l.length * 1) (k * 1) (E.encL (us ++ [(E.agg [.lst 2 217 z0A z0c z0l])])) := hf1.swap' fun j hj => E.encL_app_lt us _ j (by rw [hlen, hl]; exact hj)
        rw [Nat.mul_one k] at hf2
        have K := fun (W : World) (h : Kp w.heap.size (w.heap.size + 1) w1 W) (u : E) (hu : u ∈ us) => ((HO.out u hu).below hb1 (Nat.le_refl _)).kp h (.inr (by omega))
        refine ⟨k + 1, us ++ [(E.agg [.lst 2 217 z0A z0c z0l])], by omega, by go_num, by show _ = _; simp [hl], zw4 hlt HD.out (HDX.out.trans (by rw [← HEX.out])), hT, by have hst := (hf2.set (by omega) (ev 0 (by omega))); simp only [Nat.mul_one, Nat.add_mul, Nat.one_mul] at hst ⊢; exact hst, by simp; omega, ?_, ?_, by exact (by repeat (first | (with_reducible refine Below.setCell ?_ (by first | omega | (· simp) | (· (simp; omega))) _) | (with_reducible refine Below.alloc ?_ (by first | omega | (· simp) | (· (simp; omega))) _) | (with_reducible refine Below.drew ?_) | (with_reducible refine zk ?_ _) | (with_reducible exact Below.refl _ _) | (with_reducible assumption) | (with_reducible refine Below.trans ?_ (Below.mono (by assumption) (by first | omega | (· simp) | (· (simp; omega))))) | (with_reducible refine Below.trans ?_ (Kp.below (by assumption) (by first | omega | (· simp) | (· (simp; omega))) (by first | omega | (· simp) | (· (simp; omega)))))))⟩
        · intro u hu
          rcases List.mem_append.1 hu with hu | hu
          · exact (K _ (by repeat (first | (with_reducible exact Kp.refl _ _ _) | (refine Kp.set ?_ (by first | omega | (dsimp only; omega) | (simp; omega)) (by first | omega | (dsimp only; omega) | (simp; omega)) _))) u hu).wider (Nat.le_refl _) (by simp; omega)
          · obtain rfl := List.mem_singleton.1 hu
            exact (HOX.out.kp (lo' := w.heap.size) (hi' := w.heap.size + 1) (by repeat (first | (with_reducible exact Kp.refl _ _ _) | (refine Kp.set ?_ (by first | omega | (dsimp only; omega) | (simp; omega)) (by first | omega | (dsimp only; omega) | (simp; omega)) _))) (.inr (by omega))).wider (by omega) (by simp)
        · refine zi2 HN.out HNX.out fun g hg hg2 => ?_
          obtain ⟨u, hu, hg⟩ := E.mem_fpL.1 hg
          have := (HO.out u hu).lt g hg
          have := HOX.out.lt g hg2
          omega
      case measure => simp [intOf]; omega
    · have hk' : k = l.length := by omega
      subst hk'
      go_wp2
      go_ret
      have hl := HL.out
      have hTy := HT.out
      have own : wr.ownsRow w.heap.size 163 1 (.slice (some ⟨w.heap.size, 0, none⟩) l.length l.length) l.length (E.encL us) := hf.owns (Nat.le_refl _) rfl (by rw [E.encL_len fun u hu => (hTy u hu).2, hl]) (by unfold maxLen; omega)
      rw [← hl] at own
      refine ⟨.lst 1 163 (some ⟨w.heap.size, 0, none⟩) us.length us, by rw [← hl]; rfl, ?_, E.Ty.mk_lst Tryd.underlying66 (by kernel_rfl) (fun u hu => (hTy u hu).1) (fun u hu => (hTy u hu).2), E.Ho.mk (Ow.of_owns own (Nat.le_refl _)) (fun u hu => (hTy u hu).2) (fun u hu => (HO.out u hu).wider (by omega) (Nat.le_refl _)), ?_, hb⟩
      · show E.d _ = E.d _
        rw [za3]
        have h := HD.out
        rwa [List.take_length] at h
      · simp only [E.fp, List.singleton_append, List.nodup_cons]
        refine ⟨fun hm => ?_, HN.out⟩
        obtain ⟨u, hu, hg⟩ := E.mem_fpL.1 hm
        have := (HO.out u hu).lt _ hg
        omega
theorem zw6 {e : E} (ht : e.Ty Tryd.prog 52) : To 74 66 e := by
  obtain ⟨A, c, l, rfl, h1, _⟩ := ht.lst_ Tryd.underlying52 (k := 1) (by kernel_rfl)
  exact toMTableS_all' A c l h1
set_option maxRecDepth 100000 in
set_option maxHeartbeats 1000000 in
theorem zz7 {e e' : E} (ht : e.Ty Tryd.prog 163) (ht' : e'.Ty Tryd.prog 163) : Eq 126 e e' := by
  obtain ⟨x0A, x0c, x0l, rfl, gx0, -⟩ := zo1 ht
  obtain ⟨y0A, y0c, y0l, rfl, gy0, -⟩ := zo1 ht'
  intro hd w hr hr'
  simp only [E.d, E.dL, E.agg.injEq, List.cons.injEq, E.int.injEq, E.str.injEq, E.bool.injEq, E.lst.injEq, true_and, and_true] at hd
  have hd0 := hd
  clear hd
  have hr0 := ((hr.fld (i := 0) rfl).alloc (.cells #[.slice x0A x0l.length x0c] 163)).alloc (.cells #[.slice y0A y0l.length y0c] 163)
  have hs0 := ((hr'.fld (i := 0) rfl).alloc (.cells #[.slice x0A x0l.length x0c] 163)).alloc (.cells #[.slice y0A y0l.length y0c] 163)
  have t0 : (E.lst 2 217 x0A x0c x0l).Ty Tryd.prog 161 := E.Ty.mk_lst Tryd.underlying161 (by kernel_rfl) gx0.1 gx0.2
  have u0 : (E.lst 2 217 y0A y0c y0l).Ty Tryd.prog 161 := E.Ty.mk_lst Tryd.underlying161 (by kernel_rfl) gy0.1 gy0.2
  have HC0 := Lib.hid (zu6 t0 u0 (by simp only [E.d, E.dL, E.agg.injEq, List.cons.injEq, E.int.injEq, E.str.injEq, E.bool.injEq, E.lst.injEq, true_and, and_true]; exact hd0))
  clear t0 u0
  clear hd0
  change Calls _ _ #[.agg #[.slice x0A x0l.length x0c], .agg #[.slice y0A y0l.length y0c]] w _
  go_enter Tryd.func126, Tryd.ntmps126
  go_wp2_with fail
  go_at_call 148
  refine (HC0.out _ hr0 hs0).mono ?_; rintro e w1 ⟨rfl, hb1⟩
  have hz1 := hb1.size; (try simp only [World.size_alloc] at hz1)
  go_wp2
  go_ret
  exact ⟨rfl, (by repeat (first | (with_reducible refine Below.setCell ?_ (by first | omega | (· simp) | (· (simp; omega))) _) | (with_reducible refine Below.alloc ?_ (by first | omega | (· simp) | (· (simp; omega))) _) | (with_reducible refine Below.drew ?_) | (with_reducible refine zk ?_ _) | (with_reducible exact Below.refl _ _) | (with_reducible assumption) | (with_reducible refine Below.trans ?_ (Below.mono (by assumption) (by first | omega | (· simp) | (· (simp; omega))))) | (with_reducible refine Below.trans ?_ (Kp.below (by assumption) (by first | omega | (· simp) | (· (simp; omega))) (by first | omega | (· simp) | (· (simp; omega)))))))⟩
set_option maxRecDepth 100000 in
set_option maxHeartbeats 1000000 in
theorem eqMTableS_all' (A B : Option Addr) (c c' : Nat) (l m : List E) (h1 : ∀ y ∈ l, y.Ty Tryd.prog 163) (h2 : ∀ y ∈ m, y.Ty Tryd.prog 163) : Eq 82 (.lst 1 163 A c l) (.lst 1 163 B c' m) := by
  intro hd w hr hr'
  rw [za3] at hd
  have hs := hr.sl
  have hs' := hr'.sl
  have hml := zn5 hd
  have HD := Lib.hid hd
  clear hd
  have hlen := hs.len_le
  change Calls _ _ #[.slice A l.length c, .slice B m.length c'] w _
  obtain ⟨N, HN⟩ : ∃ N, Hid (m.length = N) := ⟨_, rfl⟩
  have hN : N = l.length := by have := HN.out; omega
  subst hN
  rw [HN.out]
  clear hml
  go_enter Tryd.func82, Tryd.ntmps82
  go_wp2
  go_loopw [5] (fun i wr => ∃ (k : Nat), k ≤ l.length ∧ i = .int .i64 k ∧ Below w.heap.size w wr) (fun i _ => l.length - (intOf i).toNat)
  case atStart => exact ⟨0, Nat.zero_le _, rfl, Below.refl _ _⟩
  case round =>
    obtain ⟨k, hk, rfl, hb⟩ := hrel
    by_cases hlt : k < l.length
    · have hltm : k < m.length := by have := HN.out; omega
      have hsb := hs.below hb (Nat.le_refl _)
      have hsb' := hs'.below hb (Nat.le_refl _)
      have hdk := d_at HD.out hlt hltm
      obtain ⟨b, o, rfl, _, hc⟩ := hsb.at_ hlt
      obtain ⟨b', o', rfl, _, hd⟩ := hsb'.at_ hltm
      have hin := (hr.el (List.getElem_mem hlt)).below hb (Nat.le_refl _)
      have hin' := (hr'.el (List.getElem_mem hltm)).below hb (Nat.le_refl _)
      have H := zz7 (h1 _ (List.getElem_mem hlt)) (h2 _ (List.getElem_mem hltm)) hdk
      obtain ⟨x0A, x0c, x0l, ex, gx0, -⟩ := zo1 (h1 _ (List.getElem_mem hlt))
      obtain ⟨y0A, y0c, y0l, ey, gy0, -⟩ := zo1 (h2 _ (List.getElem_mem hltm))
      rw [ex] at hc hin
      rw [ey] at hd hin'
      rw [ex, ey] at H
      clear ex ey hdk
      have c0 := hc 0 _ rfl
      have d0 := hd 0 _ rfl
      rw [Nat.add_zero] at c0 d0
      rw [Nat.mul_one] at c0 d0
      clear hc hd
      have hzb := hb.size
      have HH := Lib.hid H
      clear H
      go_wp2
      go_region_held3 (fun w' => w'.cell? ⟨b, o + k, none⟩ = some (.slice x0A x0l.length x0c) ∧ w'.cell? ⟨b', o' + k, none⟩ = some (.slice y0A y0l.length y0c))
        (first | exact ⟨c0, d0⟩ | skip)
        ((go_at_call 126; refine (HH.out _ (by repeat (first | (with_reducible assumption) | (with_reducible refine E.In.drew ?_) | (with_reducible refine E.In.drewN ?_ _) | (with_reducible refine E.In.alloc ?_ _) | (refine E.In.below ?_ (by with_reducible assumption) ?_) | omega | (· simp) | (· (simp; omega)))) (by repeat (first | (with_reducible assumption) | (with_reducible refine E.In.drew ?_) | (with_reducible refine E.In.drewN ?_ _) | (with_reducible refine E.In.alloc ?_ _) | (refine E.In.below ?_ (by with_reducible assumption) ?_) | omega | (· simp) | (· (simp; omega))))).mono ?_; rintro e w1 ⟨rfl, hb1⟩; have c0 := zb hb1 c0 (by first | omega | (· simp) | (· (simp; omega))); have d0 := zb hb1 d0 (by first | omega | (· simp) | (· (simp; omega)))))
      go_wp2
      go_roundw
      case rel => exact ⟨k + 1, by omega, by go_num, by exact (by repeat (first | (with_reducible refine Below.setCell ?_ (by first | omega | (· simp) | (· (simp; omega))) _) | (with_reducible refine Below.alloc ?_ (by first | omega | (· simp) | (· (simp; omega))) _) | (with_reducible refine Below.drew ?_) | (with_reducible refine zk ?_ _) | (with_reducible exact Below.refl _ _) | (with_reducible assumption) | (with_reducible refine Below.trans ?_ (Below.mono (by assumption) (by first | omega | (· simp) | (· (simp; omega))))) | (with_reducible refine Below.trans ?_ (Kp.below (by assumption) (by first | omega | (· simp) | (· (simp; omega))) (by first | omega | (· simp) | (· (simp; omega)))))))⟩
      case measure => simp [intOf]; omega
    · go_wp2
      go_ret
      exact ⟨rfl, hb⟩
theorem zx6 {e e' : E} (ht : e.Ty Tryd.prog 66) (ht' : e'.Ty Tryd.prog 66) : Eq 82 e e' := by
  obtain ⟨A, c, l, rfl, h1, _⟩ := ht.lst_ Tryd.underlying66 (k := 1) (by kernel_rfl)
  obtain ⟨B, c', m, rfl, h2, _⟩ := ht'.lst_ Tryd.underlying66 (k := 1) (by kernel_rfl)
  exact eqMTableS_all' A B c c' l m h1 h2
end Go.Proofs.YtfemkmnkofgaaaaDoor
