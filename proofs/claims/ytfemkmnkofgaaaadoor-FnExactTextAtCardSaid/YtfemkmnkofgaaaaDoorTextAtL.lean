/- The type Cell, and slices of it: shape; the laws' own functions. -/
import Derived.Test.YtfemkmnkofgaaaaDoorTextAtK
namespace Go.Proofs.YtfemkmnkofgaaaaDoor
open Go.RowKit
theorem ze2 {e : E} (h : e.Ty Tryd.prog 184) : ∃ (x0 : Int) (x1 : Int) (x2 : Int) (x3 : ByteArray), e = (E.agg [.int .i64 x0, (.agg [.int .i64 x1, .int .i64 x2, .str x3])]) ∧ ((Lit.int .i64 x0).wf = true) ∧ ((Lit.int .i64 x1).wf = true) ∧ ((Lit.int .i64 x2).wf = true) ∧ (x3.size ≤ 9223372036854775807) ∧ True := by
  obtain ⟨fs, rfl, q0⟩ := h.agg_ Tryd.underlying184
  change E.TyF _ _ [3, 182] at q0
  obtain ⟨e0, r0, rfl, h0, q1⟩ := q0.cons_
  obtain ⟨e1, r1, rfl, h1, q2⟩ := q1.cons_
  obtain rfl := q2.nil_
  obtain ⟨x0, rfl, gx0⟩ := h0.int_ Tryd.underlying3
  obtain ⟨x1, x2, x3, rfl, gx1, gx2, gx3, -⟩ := zy2 h1
  exact ⟨x0, x1, x2, x3, rfl, gx0, gx1, gx2, gx3, trivial⟩
theorem zi1 {e : E} (h : e.Ty Tryd.prog 173) : ∃ (x0 : Int) (x1 : Int) (x2 : Int) (x3 : ByteArray), e = (E.agg [.int .i64 x0, (.agg [.int .i64 x1, .int .i64 x2, .str x3])]) ∧ ((Lit.int .i64 x0).wf = true) ∧ ((Lit.int .i64 x1).wf = true) ∧ ((Lit.int .i64 x2).wf = true) ∧ (x3.size ≤ 9223372036854775807) ∧ True := by
  obtain ⟨fs, rfl, q0⟩ := h.agg_ Tryd.underlying173
  change E.TyF _ _ [3, 113] at q0
  obtain ⟨e0, r0, rfl, h0, q1⟩ := q0.cons_
  obtain ⟨e1, r1, rfl, h1, q2⟩ := q1.cons_
  obtain rfl := q2.nil_
  obtain ⟨x0, rfl, gx0⟩ := h0.int_ Tryd.underlying3
  obtain ⟨x1, x2, x3, rfl, gx1, gx2, gx3, -⟩ := zk2 h1
  exact ⟨x0, x1, x2, x3, rfl, gx0, gx1, gx2, gx3, trivial⟩
set_option maxRecDepth 100000 in
set_option maxHeartbeats 1000000 in
theorem zh11 {e : E} (ht : e.Ty Tryd.prog 184) : Sz 137 e := by
  obtain ⟨x0, x1, x2, x3, rfl, gx0, gx1, gx2, gx3, -⟩ := ze2 ht
  intro left w hr h0 h1
  have HSZ : Hid ((E.agg [.int .i64 x0, (.agg [.int .i64 x1, .int .i64 x2, .str x3])]).sz = (0 + ((E.agg [.int .i64 x1, .int .i64 x2, .str x3]).sz + 0))) := rfl
  change Calls _ _ #[.agg #[.int .i64 x0, .int .i64 x1, .int .i64 x2, .string x3], .int .i64 left] w _
  have hr1 := (hr.fld (i := 1) rfl).alloc (.cells #[.int .i64 x0, .int .i64 x1, .int .i64 x2, .string x3] 184)
  go_enter Tryd.func137, Tryd.ntmps137
  have tyfld1 : (E.agg [.int .i64 x1, .int .i64 x2, .str x3]).Ty Tryd.prog 182 := E.Ty.mk_agg Tryd.underlying182 (E.TyF.mk_cons (show E.Ty _ _ _ from ⟨Tryd.underlying3, gx1⟩) (E.TyF.mk_cons (show E.Ty _ _ _ from ⟨Tryd.underlying3, gx2⟩) (E.TyF.mk_cons (show E.Ty _ _ _ from ⟨Tryd.underlying9, by unfold maxLen; exact gx3⟩) (E.TyF.mk_nil))))
  go_wp2_with fail
  go_at_call 160
  refine ((zw13 (tyfld1)) _ _ hr1 (by omega) (by omega)).mono ?_; rintro e w1 ⟨r1, rfl, hr1s, hl1, hb1⟩
  have hz1 := hb1.size; (try simp only [World.size_alloc] at hz1)
  by_cases hn1 : r1 < 0
  · go_wp2
    go_ret
    exact ⟨-1, rfl, .inl (by omega), by omega, by exact (by repeat (first | (with_reducible refine Below.setCell ?_ (by first | omega | (· simp) | (· (simp; omega))) _) | (with_reducible refine Below.alloc ?_ (by first | omega | (· simp) | (· (simp; omega))) _) | (with_reducible refine Below.drew ?_) | (with_reducible refine zk ?_ _) | (with_reducible exact Below.refl _ _) | (with_reducible assumption) | (with_reducible refine Below.trans ?_ (Below.mono (by assumption) (by first | omega | (· simp) | (· (simp; omega))))) | (with_reducible refine Below.trans ?_ (Kp.below (by assumption) (by first | omega | (· simp) | (· (simp; omega))) (by first | omega | (· simp) | (· (simp; omega)))))))⟩
  have hq1 := hr1s.resolve_left hn1
  go_wp2
  go_ret
  refine ⟨_, rfl, .inr ?_, by omega, by exact (by repeat (first | (with_reducible refine Below.setCell ?_ (by first | omega | (· simp) | (· (simp; omega))) _) | (with_reducible refine Below.alloc ?_ (by first | omega | (· simp) | (· (simp; omega))) _) | (with_reducible refine Below.drew ?_) | (with_reducible refine zk ?_ _) | (with_reducible exact Below.refl _ _) | (with_reducible assumption) | (with_reducible refine Below.trans ?_ (Below.mono (by assumption) (by first | omega | (· simp) | (· (simp; omega))))) | (with_reducible refine Below.trans ?_ (Kp.below (by assumption) (by first | omega | (· simp) | (· (simp; omega))) (by first | omega | (· simp) | (· (simp; omega)))))))⟩
  show _ = _
  rw [HSZ.out]
  have e1 := hq1.out
  push_cast
  omega
set_option maxRecDepth 100000 in
set_option maxHeartbeats 1000000 in
theorem szCellS_all' (A : Option Addr) (c : Nat) (l : List E) (ht : ∀ y ∈ l, y.Ty Tryd.prog 184) : Sz 115 (.lst 4 184 A c l) := by
  intro left w hr h0 h1
  have hs := hr.sl
  have hlen := hs.len_le
  have HSZ : Hid ((E.lst 4 184 A c l).sz = l.length + E.szL l) := rfl
  change Calls _ _ #[.slice A l.length c, .int .i64 left] w _
  by_cases hneg : left - l.length < 0
  · go_enter Tryd.func115, Tryd.ntmps115
    go_wp2
    go_ret
    exact ⟨-1, rfl, .inl (by omega), by omega, by exact (by repeat (first | (with_reducible refine Below.setCell ?_ (by first | omega | (· simp) | (· (simp; omega))) _) | (with_reducible refine Below.alloc ?_ (by first | omega | (· simp) | (· (simp; omega))) _) | (with_reducible refine Below.drew ?_) | (with_reducible refine zk ?_ _) | (with_reducible exact Below.refl _ _) | (with_reducible assumption) | (with_reducible refine Below.trans ?_ (Below.mono (by assumption) (by first | omega | (· simp) | (· (simp; omega))))) | (with_reducible refine Below.trans ?_ (Kp.below (by assumption) (by first | omega | (· simp) | (· (simp; omega))) (by first | omega | (· simp) | (· (simp; omega)))))))⟩
  go_enter Tryd.func115, Tryd.ntmps115
  go_wp2
  go_loopw [1, 5] (fun v i wr => ∃ (k : Nat) (cur : Int), k ≤ l.length ∧ i = .int .i64 k ∧ v = .int .i64 cur ∧ 0 ≤ cur ∧ cur ≤ left ∧ Hid (cur + E.szL (l.take k) + l.length = left) ∧ Below w.heap.size w wr) (fun _ i _ => l.length - (intOf i).toNat)
  case atStart => exact ⟨0, _, Nat.zero_le _, rfl, rfl, by omega, by omega, (by show _ = _; simp [E.szL]), Below.refl _ _⟩
  case round =>
    obtain ⟨k, cur, hk, rfl, rfl, hc0, hc1, HQ, hb⟩ := hrel
    have hzb := hb.size
    by_cases hlt : k < l.length
    · have hs' := hs.below hb (Nat.le_refl _)
      have HT := Lib.hid (E.szL_take l k hlt)
      obtain ⟨b, o, rfl, _, hc⟩ := hs'.at_ hlt
      have hin := (hr.el (List.getElem_mem hlt)).below hb (Nat.le_refl _)
      have H := zh11 (ht _ (List.getElem_mem hlt))
      obtain ⟨y0, y1, y2, y3, ex, gy0, gy1, gy2, gy3, -⟩ := ze2 (ht _ (List.getElem_mem hlt))
      have HEX := Lib.hid ex
      rw [ex] at hc hin H
      clear ex
      have c0 := hc 0 _ rfl; have c1 := hc 1 _ rfl; have c2 := hc 2 _ rfl; have c3 := hc 3 _ rfl
      rw [Nat.add_zero] at c0
      clear hc
      go_wp2_with fail
      go_at_call 137
      refine (H _ _ hin hc0 (by omega)).mono ?_; rintro e w1 ⟨r, rfl, hrs, hrl, hb1⟩
      by_cases hn : r < 0
      · go_wp2
        go_ret
        exact ⟨-1, rfl, .inl (by omega), by omega, by exact (by repeat (first | (with_reducible refine Below.setCell ?_ (by first | omega | (· simp) | (· (simp; omega))) _) | (with_reducible refine Below.alloc ?_ (by first | omega | (· simp) | (· (simp; omega))) _) | (with_reducible refine Below.drew ?_) | (with_reducible refine zk ?_ _) | (with_reducible exact Below.refl _ _) | (with_reducible assumption) | (with_reducible refine Below.trans ?_ (Below.mono (by assumption) (by first | omega | (· simp) | (· (simp; omega))))) | (with_reducible refine Below.trans ?_ (Kp.below (by assumption) (by first | omega | (· simp) | (· (simp; omega))) (by first | omega | (· simp) | (· (simp; omega)))))))⟩
      · have HR := hrs.resolve_left hn
        clear hrs
        go_wp2
        go_roundw
        case rel => exact ⟨k + 1, r, by omega, by go_num, rfl, by omega, by omega, (by show _ = _; have e1 := HQ.out; have e2 := HT.out; have e3 := HR.out; rw [HEX.out] at e2; omega), by exact (by repeat (first | (with_reducible refine Below.setCell ?_ (by first | omega | (· simp) | (· (simp; omega))) _) | (with_reducible refine Below.alloc ?_ (by first | omega | (· simp) | (· (simp; omega))) _) | (with_reducible refine Below.drew ?_) | (with_reducible refine zk ?_ _) | (with_reducible exact Below.refl _ _) | (with_reducible assumption) | (with_reducible refine Below.trans ?_ (Below.mono (by assumption) (by first | omega | (· simp) | (· (simp; omega))))) | (with_reducible refine Below.trans ?_ (Kp.below (by assumption) (by first | omega | (· simp) | (· (simp; omega))) (by first | omega | (· simp) | (· (simp; omega)))))))⟩
        case measure => simp [intOf]; omega
    · have hk' : k = l.length := by omega
      subst hk'
      go_wp2
      go_ret
      refine ⟨_, rfl, .inr ?_, by omega, hb⟩
      show _ = _
      have e1 := HQ.out
      rw [List.take_length] at e1
      rw [HSZ.out]
      push_cast
      omega
theorem zg9 {e : E} (ht : e.Ty Tryd.prog 48) : Sz 115 e := by
  obtain ⟨A, c, l, rfl, h1, _⟩ := ht.lst_ Tryd.underlying48 (k := 4) (by kernel_rfl)
  exact szCellS_all' A c l h1
set_option maxRecDepth 100000 in
set_option maxHeartbeats 1000000 in
theorem zi11 {e : E} (ht : e.Ty Tryd.prog 184) : To 142 173 e := by
  have HT0 := Lib.hid ht
  obtain ⟨x0, x1, x2, x3, rfl, gx0, gx1, gx2, gx3, -⟩ := ze2 ht
  intro w hr hsz
  have hsz' : (0 + ((E.agg [.int .i64 x1, .int .i64 x2, .str x3]).sz + 0)) ≤ 1048576 := hsz
  have hs1 : (E.agg [.int .i64 x1, .int .i64 x2, .str x3]).sz ≤ 1048576 := by omega
  clear hsz hsz'
  have hr1 := hr.fld (i := 1) rfl
  have ty1 : (E.agg [.int .i64 x1, .int .i64 x2, .str x3]).Ty Tryd.prog 182 := E.Ty.mk_agg Tryd.underlying182 (E.TyF.mk_cons (show E.Ty _ _ _ from ⟨Tryd.underlying3, gx1⟩) (E.TyF.mk_cons (show E.Ty _ _ _ from ⟨Tryd.underlying3, gx2⟩) (E.TyF.mk_cons (show E.Ty _ _ _ from ⟨Tryd.underlying9, by unfold maxLen; exact gx3⟩) (E.TyF.mk_nil))))
  have HC1 := Lib.hid (zx13 ty1)
  clear ty1
  change Calls _ _ #[.agg #[.int .i64 x0, .int .i64 x1, .int .i64 x2, .string x3]] w _
  go_enter Tryd.func142, Tryd.ntmps142
  go_wp2_with fail
  go_at_call 163
  refine (HC1.out _ (((hr1.alloc _).alloc _).alloc _) hs1).mono ?_; rintro e w1 ⟨v1, he, HD1, ht1, ho1, hn1, hb1⟩
  have HT1 := Lib.hid ht1
  have HN1 := Lib.hid hn1
  obtain ⟨z1_0, z1_1, z1_2, rfl, gz1_0, gz1_1, gz1_2, -⟩ := zk2 ht1
  obtain rfl : e = .returned (.agg #[.int .i64 z1_0, .int .i64 z1_1, .string z1_2]) := he
  clear hn1 ht1
  have B0_1 : w1.heap[w.heap.size]? = some (.cells #[.int .i64 x0, .int .i64 x1, .int .i64 x2, .string x3] 184 (0, 0)) := (hb1.block (w.heap.size) (by simp; omega)).trans zt2.1
  have B1_1 : w1.heap[w.heap.size + 1]? = some (.cells #[.int .i64 0, .int .i64 0, .int .i64 0, .string ByteArray.empty] 173 (0, 0)) := (hb1.block (w.heap.size + 1) (by simp)).trans zt2.2.1
  have B2_1 : w1.heap[w.heap.size + 1 + 1]? = some (.cells #[.int .i64 x0, .int .i64 0, .int .i64 0, .string ByteArray.empty] 173 (0, 0)) := (hb1.block (w.heap.size + 1 + 1) (by simp)).trans zt2.2.2
  have hz1 := hb1.size; simp only [World.size_alloc] at hz1
  have hB1 : Below w.heap.size w w1 := (by exact (by repeat (first | (with_reducible refine Below.setCell ?_ (by first | omega | (· simp) | (· (simp; omega))) _) | (with_reducible refine Below.alloc ?_ (by first | omega | (· simp) | (· (simp; omega))) _) | (with_reducible refine Below.drew ?_) | (with_reducible refine zk ?_ _) | (with_reducible exact Below.refl _ _) | (with_reducible assumption) | (with_reducible refine Below.trans ?_ (Below.mono (by assumption) (by first | omega | (· simp) | (· (simp; omega))))) | (with_reducible refine Below.trans ?_ (Kp.below (by assumption) (by first | omega | (· simp) | (· (simp; omega))) (by first | omega | (· simp) | (· (simp; omega))))))) : Below w.heap.size w _).trans (hb1.mono (by simp; omega))
  have ho1 := ho1.wider (lo' := w.heap.size + 1 + 1 + 1) (by simp) (Nat.le_refl _)
  have c1_0 : w1.cell? ⟨w.heap.size, 0, none⟩ = some (.int .i64 x0) := za B0_1 rfl
  have c1_1 : w1.cell? ⟨w.heap.size, 1, none⟩ = some (.int .i64 x1) := za B0_1 rfl
  have c1_2 : w1.cell? ⟨w.heap.size, 2, none⟩ = some (.int .i64 x2) := za B0_1 rfl
  have c1_3 : w1.cell? ⟨w.heap.size, 3, none⟩ = some (.string x3) := za B0_1 rfl
  have d1_0 : w1.cell? ⟨w.heap.size + 1 + 1, 0, none⟩ = some (.int .i64 x0) := za B2_1 rfl
  have d1_1 : w1.cell? ⟨w.heap.size + 1 + 1, 1, none⟩ = some (.int .i64 0) := za B2_1 rfl
  have d1_2 : w1.cell? ⟨w.heap.size + 1 + 1, 2, none⟩ = some (.int .i64 0) := za B2_1 rfl
  have d1_3 : w1.cell? ⟨w.heap.size + 1 + 1, 3, none⟩ = some (.string ByteArray.empty) := za B2_1 rfl
  have f1 := zz1 B2_1
  have r0' := za B1_1 (o := 0) rfl; have r1' := za B1_1 (o := 1) rfl; have r2' := za B1_1 (o := 2) rfl; have r3' := za B1_1 (o := 3) rfl
  have fr' := zz1 B1_1
  go_wp2
  have OWN : Owns w1 (w.heap.size + 1 + 1 + 1) w1.heap.size [(E.int .i64 x0), (E.agg [.int .i64 z1_0, .int .i64 z1_1, .str z1_2])] := (Owns.leaf rfl (by simp only [E.Ho]) (Owns.cons (mid := w1.heap.size) ho1 HN1.out Owns.nil (by omega) (by omega)))
  refine bodyPost_ret (v := .agg #[.int .i64 x0, .int .i64 z1_0, .int .i64 z1_1, .string z1_2]) (ze3 (t := 173) (fr := (0, 0)) rfl rfl Tryd.underlying173 (by kernel_rfl) ?_) rfl ⟨(E.agg [(E.int .i64 x0), (E.agg [.int .i64 z1_0, .int .i64 z1_1, .str z1_2])]), rfl, ?_, E.Ty.mk_agg Tryd.underlying173 (E.TyF.mk_cons (show E.Ty _ _ _ from ⟨Tryd.underlying3, gx0⟩) (E.TyF.mk_cons HT1.out (E.TyF.mk_nil))), ?_, ?_, ?_⟩
  · simp only [zp1, B1_1, B2_1]; simp [setAt]
  · show E.d _ = E.d _
    simp only [E.d, E.dL]
    have y1 := HD1.out; simp only [E.d, E.dL] at y1
    simp only [E.agg.injEq, List.cons.injEq, E.lst.injEq, E.int.injEq, E.str.injEq, E.bool.injEq, true_and, and_true] at *
    simp [*]
  · exact ((E.Ho.mk_agg OWN.1).kp (lo' := w.heap.size + 1) (hi' := w.heap.size + 1 + 1 + 1) (by repeat (first | (with_reducible exact Kp.refl _ _ _) | (refine Kp.set ?_ (by first | omega | (dsimp only; omega) | (simp; omega)) (by first | omega | (dsimp only; omega) | (simp; omega)) _))) (.inr (by omega))).wider (by omega) (by simp)
  · exact OWN.2
  · exact hB1.trans (Kp.below (lo := w.heap.size + 1) (hi := w.heap.size + 1 + 1 + 1) (by repeat (first | (with_reducible exact Kp.refl _ _ _) | (refine Kp.set ?_ (by first | omega | (dsimp only; omega) | (simp; omega)) (by first | omega | (dsimp only; omega) | (simp; omega)) _))) (by omega) (by omega))
theorem zz13 : (Tryd.prog.info? 173).map (fun i => (i.zero, i.size, i.bytes)) = some (some (.agg #[.int .i64 0, .int .i64 0, .int .i64 0, .string ByteArray.empty]), 4, 40) := by kernel_rfl
set_option maxRecDepth 100000 in
set_option maxHeartbeats 1000000 in
theorem toCellS_all' (A : Option Addr) (c : Nat) (l : List E) (h1 : ∀ y ∈ l, y.Ty Tryd.prog 184) : To 121 63 (.lst 4 184 A c l) := by
  intro w hr hsz
  have hs := hr.sl
  have eS : (E.lst 4 184 A c l).sz = l.length + E.szL l := rfl
  have hn : l.length ≤ 1048576 := by omega
  have HS := Lib.hid (show l.length + E.szL l ≤ 1048576 by omega)
  clear eS hsz
  have hmk := zm5 Tryd.underlying63 zz13 l.length (by omega) (by omega)
  have hF := Fill.new w 173 #[.int .i64 0, .int .i64 0, .int .i64 0, .string ByteArray.empty] (l.length * 4) ([] : List Value)
  change Calls _ _ #[.slice A l.length c] w _
  go_enter Tryd.func121, Tryd.ntmps121
  go_wp2
  go_loopw [4] (fun i wr => ∃ (k : Nat) (us : List E), k ≤ l.length ∧ i = .int .i64 k ∧ Hid (us.length = k) ∧ Hid (us.map E.d = (l.take k).map E.d) ∧ Hid (∀ u ∈ us, u.Ty Tryd.prog 173 ∧ u.enc.length = 4) ∧ Fill wr w.heap.size 173 (l.length * 4) (k * 4) (E.encL us) ∧ w.heap.size + 1 ≤ wr.heap.size ∧ Hid (∀ u ∈ us, u.Ho wr (w.heap.size + 1) wr.heap.size) ∧ Hid ((E.fpL us).Nodup) ∧ Below w.heap.size w wr) (fun i _ => l.length - (intOf i).toNat)
  case atStart => exact ⟨0, [], Nat.zero_le _, rfl, rfl, rfl, (fun u hu => absurd hu List.not_mem_nil), by exact hF, by simp, (fun u hu => absurd hu List.not_mem_nil), (by show List.Nodup _; simp [E.fpL]), by exact (by repeat (first | (with_reducible refine Below.setCell ?_ (by first | omega | (· simp) | (· (simp; omega))) _) | (with_reducible refine Below.alloc ?_ (by first | omega | (· simp) | (· (simp; omega))) _) | (with_reducible refine Below.drew ?_) | (with_reducible refine zk ?_ _) | (with_reducible exact Below.refl _ _) | (with_reducible assumption) | (with_reducible refine Below.trans ?_ (Below.mono (by assumption) (by first | omega | (· simp) | (· (simp; omega))))) | (with_reducible refine Below.trans ?_ (Kp.below (by assumption) (by first | omega | (· simp) | (· (simp; omega))) (by first | omega | (· simp) | (· (simp; omega)))))))⟩
  case round =>
    obtain ⟨k, us, hk, rfl, HL, HD, HT, hf, hge, HO, HN, hb⟩ := hrel
    by_cases hlt : k < l.length
    · have hs' := hs.below hb (Nat.le_refl _)
      have hzb := hb.size
      have hmem := List.getElem_mem hlt
      have hin := (hr.el hmem).below hb (Nat.le_refl _)
      have H := zi11 (h1 _ hmem)
      have hsk : l[k].sz ≤ 1048576 := by have := E.szL_mem hmem; have := HS.out; omega
      obtain ⟨b, o, rfl, _, hc⟩ := hs'.at_ hlt
      obtain ⟨y0, y1, y2, y3, ex, gy0, gy1, gy2, gy3, -⟩ := ze2 (h1 _ hmem)
      have HEX := Lib.hid ex
      rw [ex] at hc hin H hsk
      clear ex
      have c0 := hc 0 _ rfl; have c1 := hc 1 _ rfl; have c2 := hc 2 _ rfl; have c3 := hc 3 _ rfl
      rw [Nat.add_zero] at c0
      clear hc
      have HF := Lib.hid hf
      clear hf
      go_wp2_with fail
      go_at_call 142
      refine (H _ hin hsk).mono ?_; rintro e w1 ⟨x, he, HDX, htx, hox, hnx, hb1⟩
      have HTX := Lib.hid htx
      obtain ⟨z0, z1, z2, z3, rfl, gz0, gz1, gz2, gz3, -⟩ := zi1 htx
      obtain rfl : e = .returned (.agg #[.int .i64 z0, .int .i64 z1, .int .i64 z2, .string z3]) := he
      have hf1 := HF.out.below hb1 HF.out.lt
      obtain ⟨u0, c0'⟩ := hf1.cell (j := k * 4) (by omega); obtain ⟨u1, c1'⟩ := hf1.cell (j := k * 4 + 1) (by omega); obtain ⟨u2, c2'⟩ := hf1.cell (j := k * 4 + 2) (by omega); obtain ⟨u3, c3'⟩ := hf1.cell (j := k * 4 + 3) (by omega)
      have zfr := hf1.frozen
      have hz1 := hb1.size
      have HOX := Lib.hid hox
      have HNX := Lib.hid hnx
      have HF1 := Lib.hid hf1
      clear hox hnx hf1 htx
      go_wp2
      go_roundw
      case rel =>
        have hl := HL.out
        have hf1 := HF1.out
        have hT : ∀ u ∈ us ++ [(E.agg [.int .i64 z0, (.agg [.int .i64 z1, .int .i64 z2, .str z3])])], u.Ty Tryd.prog 173 ∧ u.enc.length = 4 := fun u hu => by
          rcases List.mem_append.1 hu with hu | hu
          · exact HT.out u hu
          · obtain rfl := List.mem_singleton.1 hu
            exact ⟨HTX.out, rfl⟩
        have hlen := E.encL_len fun u hu => (HT.out u hu).2
        have hk2 : k < (us ++ [(E.agg [.int .i64 z0, (.agg [.int .i64 z1, .int .i64 z2, .str z3])])]).length := by simp; omega
        have ev := fun j hj => E.encL_at (fun u hu => (hT u hu).2) k hk2 j hj
        have eT : (us ++ [(E.agg [.int .i64 z0, (.agg [.int .i64 z1, .int .i64 z2, .str z3])])])[k] = (E.agg [.int .i64 z0, (.agg [.int .i64 z1, .int .i64 z2, .str z3])]) := by rw [List.getElem_append_right (by omega)]; simp [hl]
        simp only [eT] at ev
        have hf2 : Fill w1 w.heap.size 173 (l.length * 4) (k * 4) (E.encL (us ++ [(E.agg [.int .i64 z0, (.agg [.int .i64 z1, .int .i64 z2, .str z3])])])) := hf1.swap' fun j hj => E.encL_app_lt us _ j (by rw [hlen, hl]; exact hj)
        have K := fun (W : World) (h : Kp w.heap.size (w.heap.size + 1) w1 W) (u : E) (hu : u ∈ us) => ((HO.out u hu).below hb1 (Nat.le_refl _)).kp h (.inr (by omega))
        refine ⟨k + 1, us ++ [(E.agg [.int .i64 z0, (.agg [.int .i64 z1, .int .i64 z2, .str z3])])], by omega, by go_num, by show _ = _; simp [hl], zw4 hlt HD.out (HDX.out.trans (by rw [← HEX.out])), hT, by rw [Nat.add_mul]; exact ((((hf2.set (by omega) (ev 0 (by omega))).set (by omega) (ev 1 (by omega))).set (by omega) (ev 2 (by omega))).set (by omega) (ev 3 (by omega))), by simp; omega, ?_, ?_, by exact (by repeat (first | (with_reducible refine Below.setCell ?_ (by first | omega | (· simp) | (· (simp; omega))) _) | (with_reducible refine Below.alloc ?_ (by first | omega | (· simp) | (· (simp; omega))) _) | (with_reducible refine Below.drew ?_) | (with_reducible refine zk ?_ _) | (with_reducible exact Below.refl _ _) | (with_reducible assumption) | (with_reducible refine Below.trans ?_ (Below.mono (by assumption) (by first | omega | (· simp) | (· (simp; omega))))) | (with_reducible refine Below.trans ?_ (Kp.below (by assumption) (by first | omega | (· simp) | (· (simp; omega))) (by first | omega | (· simp) | (· (simp; omega)))))))⟩
        · intro u hu
          rcases List.mem_append.1 hu with hu | hu
          · exact (K _ (by repeat (first | (with_reducible exact Kp.refl _ _ _) | (refine Kp.set ?_ (by first | omega | (dsimp only; omega) | (simp; omega)) (by first | omega | (dsimp only; omega) | (simp; omega)) _))) u hu).wider (Nat.le_refl _) (by simp; omega)
          · obtain rfl := List.mem_singleton.1 hu
            exact (HOX.out.kp (lo' := w.heap.size) (hi' := w.heap.size + 1) (by repeat (first | (with_reducible exact Kp.refl _ _ _) | (refine Kp.set ?_ (by first | omega | (dsimp only; omega) | (simp; omega)) (by first | omega | (dsimp only; omega) | (simp; omega)) _))) (.inr (by omega))).wider (by omega) (by simp)
        · refine zi2 HN.out HNX.out fun g hg hg2 => ?_
          obtain ⟨u, hu, hg⟩ := E.mem_fpL.1 hg
          have := (HO.out u hu).lt g hg
          have := HOX.out.lt g hg2
          omega
      case measure => simp [intOf]; omega
    · have hk' : k = l.length := by omega
      subst hk'
      go_wp2
      go_ret
      have hl := HL.out
      have hTy := HT.out
      have own : wr.ownsRow w.heap.size 173 4 (.slice (some ⟨w.heap.size, 0, none⟩) l.length l.length) l.length (E.encL us) := hf.owns (Nat.le_refl _) rfl (by rw [E.encL_len fun u hu => (hTy u hu).2, hl]) (by unfold maxLen; omega)
      rw [← hl] at own
      refine ⟨.lst 4 173 (some ⟨w.heap.size, 0, none⟩) us.length us, by rw [← hl]; rfl, ?_, E.Ty.mk_lst Tryd.underlying63 (by kernel_rfl) (fun u hu => (hTy u hu).1) (fun u hu => (hTy u hu).2), E.Ho.mk (Ow.of_owns own (Nat.le_refl _)) (fun u hu => (hTy u hu).2) (fun u hu => (HO.out u hu).wider (by omega) (Nat.le_refl _)), ?_, hb⟩
      · show E.d _ = E.d _
        rw [za3]
        have h := HD.out
        rwa [List.take_length] at h
      · simp only [E.fp, List.singleton_append, List.nodup_cons]
        refine ⟨fun hm => ?_, HN.out⟩
        obtain ⟨u, hu, hg⟩ := E.mem_fpL.1 hm
        have := (HO.out u hu).lt _ hg
        omega
theorem zh9 {e : E} (ht : e.Ty Tryd.prog 48) : To 121 63 e := by
  obtain ⟨A, c, l, rfl, h1, _⟩ := ht.lst_ Tryd.underlying48 (k := 4) (by kernel_rfl)
  exact toCellS_all' A c l h1
set_option maxRecDepth 100000 in
set_option maxHeartbeats 1000000 in
theorem zj11 {e e' : E} (ht : e.Ty Tryd.prog 173) (ht' : e'.Ty Tryd.prog 173) : Eq 147 e e' := by
  obtain ⟨x0, x1, x2, x3, rfl, gx0, gx1, gx2, gx3, -⟩ := zi1 ht
  obtain ⟨y0, y1, y2, y3, rfl, gy0, gy1, gy2, gy3, -⟩ := zi1 ht'
  intro hd w hr hr'
  simp only [E.d, E.dL, E.agg.injEq, List.cons.injEq, E.int.injEq, E.str.injEq, E.bool.injEq, E.lst.injEq, true_and, and_true] at hd
  obtain ⟨rfl, ⟨rfl, rfl, rfl⟩⟩ := hd
  have hr1 := ((hr.fld (i := 1) rfl).alloc (.cells #[.int .i64 x0, .int .i64 x1, .int .i64 x2, .string x3] 173)).alloc (.cells #[.int .i64 x0, .int .i64 x1, .int .i64 x2, .string x3] 173)
  have hs1 := ((hr'.fld (i := 1) rfl).alloc (.cells #[.int .i64 x0, .int .i64 x1, .int .i64 x2, .string x3] 173)).alloc (.cells #[.int .i64 x0, .int .i64 x1, .int .i64 x2, .string x3] 173)
  have t1 : (E.agg [.int .i64 x1, .int .i64 x2, .str x3]).Ty Tryd.prog 113 := E.Ty.mk_agg Tryd.underlying113 (E.TyF.mk_cons (show E.Ty _ _ _ from ⟨Tryd.underlying3, gx1⟩) (E.TyF.mk_cons (show E.Ty _ _ _ from ⟨Tryd.underlying3, gx2⟩) (E.TyF.mk_cons (show E.Ty _ _ _ from ⟨Tryd.underlying9, by unfold maxLen; exact gx3⟩) (E.TyF.mk_nil))))
  have u1 : (E.agg [.int .i64 x1, .int .i64 x2, .str x3]).Ty Tryd.prog 113 := E.Ty.mk_agg Tryd.underlying113 (E.TyF.mk_cons (show E.Ty _ _ _ from ⟨Tryd.underlying3, gx1⟩) (E.TyF.mk_cons (show E.Ty _ _ _ from ⟨Tryd.underlying3, gx2⟩) (E.TyF.mk_cons (show E.Ty _ _ _ from ⟨Tryd.underlying9, by unfold maxLen; exact gx3⟩) (E.TyF.mk_nil))))
  have HC1 := Lib.hid (zy13 t1 u1 rfl)
  clear t1 u1
  change Calls _ _ #[.agg #[.int .i64 x0, .int .i64 x1, .int .i64 x2, .string x3], .agg #[.int .i64 x0, .int .i64 x1, .int .i64 x2, .string x3]] w _
  go_enter Tryd.func147, Tryd.ntmps147
  go_wp2_with fail
  go_at_call 167
  refine (HC1.out _ hr1 hs1).mono ?_; rintro e w1 ⟨rfl, hb1⟩
  have hz1 := hb1.size; (try simp only [World.size_alloc] at hz1)
  go_wp2
  go_ret
  exact ⟨rfl, (by repeat (first | (with_reducible refine Below.setCell ?_ (by first | omega | (· simp) | (· (simp; omega))) _) | (with_reducible refine Below.alloc ?_ (by first | omega | (· simp) | (· (simp; omega))) _) | (with_reducible refine Below.drew ?_) | (with_reducible refine zk ?_ _) | (with_reducible exact Below.refl _ _) | (with_reducible assumption) | (with_reducible refine Below.trans ?_ (Below.mono (by assumption) (by first | omega | (· simp) | (· (simp; omega))))) | (with_reducible refine Below.trans ?_ (Kp.below (by assumption) (by first | omega | (· simp) | (· (simp; omega))) (by first | omega | (· simp) | (· (simp; omega)))))))⟩
set_option maxRecDepth 100000 in
set_option maxHeartbeats 1000000 in
theorem eqCellS_all' (A B : Option Addr) (c c' : Nat) (l m : List E) (h1 : ∀ y ∈ l, y.Ty Tryd.prog 173) (h2 : ∀ y ∈ m, y.Ty Tryd.prog 173) : Eq 125 (.lst 4 173 A c l) (.lst 4 173 B c' m) := by
  intro hd w hr hr'
  rw [za3] at hd
  have hs := hr.sl
  have hs' := hr'.sl
  have hml := zn5 hd
  have HD := Lib.hid hd
  clear hd
  have hlen := hs.len_le
  change Calls _ _ #[.slice A l.length c, .slice B m.length c'] w _
  obtain ⟨N, HN⟩ : ∃ N, Hid (m.length = N) := ⟨_, rfl⟩
  have hN : N = l.length := by have := HN.out; omega
  subst hN
  rw [HN.out]
  clear hml
  go_enter Tryd.func125, Tryd.ntmps125
  go_wp2
  go_loopw [5] (fun i wr => ∃ (k : Nat), k ≤ l.length ∧ i = .int .i64 k ∧ Below w.heap.size w wr) (fun i _ => l.length - (intOf i).toNat)
  case atStart => exact ⟨0, Nat.zero_le _, rfl, Below.refl _ _⟩
  case round =>
    obtain ⟨k, hk, rfl, hb⟩ := hrel
    by_cases hlt : k < l.length
    · have hltm : k < m.length := by have := HN.out; omega
      have hsb := hs.below hb (Nat.le_refl _)
      have hsb' := hs'.below hb (Nat.le_refl _)
      have hdk := d_at HD.out hlt hltm
      obtain ⟨b, o, rfl, _, hc⟩ := hsb.at_ hlt
      obtain ⟨b', o', rfl, _, hd⟩ := hsb'.at_ hltm
      have hin := (hr.el (List.getElem_mem hlt)).below hb (Nat.le_refl _)
      have hin' := (hr'.el (List.getElem_mem hltm)).below hb (Nat.le_refl _)
      have H := zj11 (h1 _ (List.getElem_mem hlt)) (h2 _ (List.getElem_mem hltm)) hdk
      obtain ⟨x0, x1, x2, x3, ex, gx0, gx1, gx2, gx3, -⟩ := zi1 (h1 _ (List.getElem_mem hlt))
      obtain ⟨y0, y1, y2, y3, ey, gy0, gy1, gy2, gy3, -⟩ := zi1 (h2 _ (List.getElem_mem hltm))
      rw [ex] at hc hin
      rw [ey] at hd hin'
      rw [ex, ey] at H
      clear ex ey hdk
      have c0 := hc 0 _ rfl; have c1 := hc 1 _ rfl; have c2 := hc 2 _ rfl; have c3 := hc 3 _ rfl
      have d0 := hd 0 _ rfl; have d1 := hd 1 _ rfl; have d2 := hd 2 _ rfl; have d3 := hd 3 _ rfl
      rw [Nat.add_zero] at c0 d0
      clear hc hd
      have hzb := hb.size
      have HH := Lib.hid H
      clear H
      go_wp2
      go_region_held3 (fun w' => w'.cell? ⟨b, o + k * 4, none⟩ = some (.int .i64 x0) ∧ w'.cell? ⟨b, o + k * 4 + 1, none⟩ = some (.int .i64 x1) ∧ w'.cell? ⟨b, o + k * 4 + 2, none⟩ = some (.int .i64 x2) ∧ w'.cell? ⟨b, o + k * 4 + 3, none⟩ = some (.string x3) ∧ w'.cell? ⟨b', o' + k * 4, none⟩ = some (.int .i64 y0) ∧ w'.cell? ⟨b', o' + k * 4 + 1, none⟩ = some (.int .i64 y1) ∧ w'.cell? ⟨b', o' + k * 4 + 2, none⟩ = some (.int .i64 y2) ∧ w'.cell? ⟨b', o' + k * 4 + 3, none⟩ = some (.string y3))
        (first | exact ⟨c0, c1, c2, c3, d0, d1, d2, d3⟩ | skip)
        ((go_at_call 147; refine (HH.out _ (by repeat (first | (with_reducible assumption) | (with_reducible refine E.In.drew ?_) | (with_reducible refine E.In.drewN ?_ _) | (with_reducible refine E.In.alloc ?_ _) | (refine E.In.below ?_ (by with_reducible assumption) ?_) | omega | (· simp) | (· (simp; omega)))) (by repeat (first | (with_reducible assumption) | (with_reducible refine E.In.drew ?_) | (with_reducible refine E.In.drewN ?_ _) | (with_reducible refine E.In.alloc ?_ _) | (refine E.In.below ?_ (by with_reducible assumption) ?_) | omega | (· simp) | (· (simp; omega))))).mono ?_; rintro e w1 ⟨rfl, hb1⟩; have c0 := zb hb1 c0 (by first | omega | (· simp) | (· (simp; omega))); have c1 := zb hb1 c1 (by first | omega | (· simp) | (· (simp; omega))); have c2 := zb hb1 c2 (by first | omega | (· simp) | (· (simp; omega))); have c3 := zb hb1 c3 (by first | omega | (· simp) | (· (simp; omega))); have d0 := zb hb1 d0 (by first | omega | (· simp) | (· (simp; omega))); have d1 := zb hb1 d1 (by first | omega | (· simp) | (· (simp; omega))); have d2 := zb hb1 d2 (by first | omega | (· simp) | (· (simp; omega))); have d3 := zb hb1 d3 (by first | omega | (· simp) | (· (simp; omega)))))
      go_wp2
      go_roundw
      case rel => exact ⟨k + 1, by omega, by go_num, by exact (by repeat (first | (with_reducible refine Below.setCell ?_ (by first | omega | (· simp) | (· (simp; omega))) _) | (with_reducible refine Below.alloc ?_ (by first | omega | (· simp) | (· (simp; omega))) _) | (with_reducible refine Below.drew ?_) | (with_reducible refine zk ?_ _) | (with_reducible exact Below.refl _ _) | (with_reducible assumption) | (with_reducible refine Below.trans ?_ (Below.mono (by assumption) (by first | omega | (· simp) | (· (simp; omega))))) | (with_reducible refine Below.trans ?_ (Kp.below (by assumption) (by first | omega | (· simp) | (· (simp; omega))) (by first | omega | (· simp) | (· (simp; omega)))))))⟩
      case measure => simp [intOf]; omega
    · go_wp2
      go_ret
      exact ⟨rfl, hb⟩
theorem zi9 {e e' : E} (ht : e.Ty Tryd.prog 63) (ht' : e'.Ty Tryd.prog 63) : Eq 125 e e' := by
  obtain ⟨A, c, l, rfl, h1, _⟩ := ht.lst_ Tryd.underlying63 (k := 4) (by kernel_rfl)
  obtain ⟨B, c', m, rfl, h2, _⟩ := ht'.lst_ Tryd.underlying63 (k := 4) (by kernel_rfl)
  exact eqCellS_all' A B c c' l m h1 h2
end Go.Proofs.YtfemkmnkofgaaaaDoor
