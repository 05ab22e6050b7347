/- The type Table, and slices of it: shape; the laws' own functions. -/
import Derived.Test.YtfnnbjkjfoiboaaFamEntry
import Derived.Deep.RegionHeld3
namespace Go.Proofs.Ytfnnbjkjfoiboaa
open Go.RowKit

theorem shape_laws_Table {e : E} (h : e.Ty Try.prog 176) : ∃ (x0 : ByteArray) (x1A : Option Addr) (x1c : Nat) (x1l : List E), e = (E.agg [.str x0, .lst 4 203 x1A x1c x1l]) ∧ (x0.size ≤ 9223372036854775807) ∧ ((∀ y ∈ x1l, y.Ty Try.prog 203) ∧ (∀ y ∈ x1l, y.enc.length = 4)) ∧ True := by
  obtain ⟨fs, rfl, q0⟩ := h.agg_ Try.underlying176
  change E.TyF _ _ [9, 174] at q0
  obtain ⟨e0, r0, rfl, h0, q1⟩ := q0.cons_
  obtain ⟨e1, r1, rfl, h1, q2⟩ := q1.cons_
  obtain rfl := q2.nil_
  obtain ⟨x0, rfl, gx0⟩ := h0.str_ Try.underlying9
  obtain ⟨x1A, x1c, x1l, rfl, gx1, gx1'⟩ := h1.lst_ Try.underlying174 (k := 4) (by kernel_rfl)
  exact ⟨x0, x1A, x1c, x1l, rfl, gx0, ⟨gx1, gx1'⟩, trivial⟩
theorem shape_impl_Table {e : E} (h : e.Ty Try.prog 114) : ∃ (x0 : ByteArray) (x1A : Option Addr) (x1c : Nat) (x1l : List E), e = (E.agg [.str x0, .lst 4 116 x1A x1c x1l]) ∧ (x0.size ≤ 9223372036854775807) ∧ ((∀ y ∈ x1l, y.Ty Try.prog 116) ∧ (∀ y ∈ x1l, y.enc.length = 4)) ∧ True := by
  obtain ⟨fs, rfl, q0⟩ := h.agg_ Try.underlying114
  change E.TyF _ _ [9, 112] at q0
  obtain ⟨e0, r0, rfl, h0, q1⟩ := q0.cons_
  obtain ⟨e1, r1, rfl, h1, q2⟩ := q1.cons_
  obtain rfl := q2.nil_
  obtain ⟨x0, rfl, gx0⟩ := h0.str_ Try.underlying9
  obtain ⟨x1A, x1c, x1l, rfl, gx1, gx1'⟩ := h1.lst_ Try.underlying112 (k := 4) (by kernel_rfl)
  exact ⟨x0, x1A, x1c, x1l, rfl, gx0, ⟨gx1, gx1'⟩, trivial⟩
set_option maxRecDepth 100000 in
set_option maxHeartbeats 1000000 in
theorem szTable_all {e : E} (ht : e.Ty Try.prog 176) : Sz 149 e := by
  obtain ⟨x0, x1A, x1c, x1l, rfl, gx0, gx1, -⟩ := shape_laws_Table ht
  intro left w hr h0 h1
  have HSZ : Hid ((E.agg [.str x0, .lst 4 203 x1A x1c x1l]).sz = (x0.size + ((E.lst 4 203 x1A x1c x1l).sz + 0))) := rfl
  change Calls _ _ #[.agg #[.string x0, .slice x1A x1l.length x1c], .int .i64 left] w _
  have hr1 := (hr.fld (i := 1) rfl).alloc (.cells #[.string x0, .slice x1A x1l.length x1c] 176)
  go_enter Try.func149, Try.ntmps149
  by_cases hn1 : left - x0.size < 0
  · go_wp2
    go_ret
    exact ⟨-1, rfl, .inl (by omega), by omega, by exact (by repeat (first | (with_reducible refine Below.setCell ?_ (by first | omega | (· simp) | (· (simp; omega))) _) | (with_reducible refine Below.alloc ?_ (by first | omega | (· simp) | (· (simp; omega))) _) | (with_reducible refine Below.drew ?_) | (with_reducible refine bdrewN ?_ _) | (with_reducible exact Below.refl _ _) | (with_reducible assumption) | (with_reducible refine Below.trans ?_ (Below.mono (by assumption) (by first | omega | (· simp) | (· (simp; omega))))) | (with_reducible refine Below.trans ?_ (Kp.below (by assumption) (by first | omega | (· simp) | (· (simp; omega))) (by first | omega | (· simp) | (· (simp; omega)))))))⟩
  go_wp2_with fail
  go_at_call 168
  refine ((szEntryS_all (E.Ty.mk_lst Try.underlying174 (by kernel_rfl) gx1.1 gx1.2)) _ _ hr1 (by omega) (by omega)).mono ?_; rintro e w2 ⟨r2, rfl, hr2s, hl2, hb2⟩
  have hz2 := hb2.size; (try simp only [World.size_alloc] at hz2)
  by_cases hn2 : r2 < 0
  · go_wp2
    go_ret
    exact ⟨-1, rfl, .inl (by omega), by omega, by exact (by repeat (first | (with_reducible refine Below.setCell ?_ (by first | omega | (· simp) | (· (simp; omega))) _) | (with_reducible refine Below.alloc ?_ (by first | omega | (· simp) | (· (simp; omega))) _) | (with_reducible refine Below.drew ?_) | (with_reducible refine bdrewN ?_ _) | (with_reducible exact Below.refl _ _) | (with_reducible assumption) | (with_reducible refine Below.trans ?_ (Below.mono (by assumption) (by first | omega | (· simp) | (· (simp; omega))))) | (with_reducible refine Below.trans ?_ (Kp.below (by assumption) (by first | omega | (· simp) | (· (simp; omega))) (by first | omega | (· simp) | (· (simp; omega)))))))⟩
  have hq2 := hr2s.resolve_left hn2
  go_wp2
  go_ret
  refine ⟨_, rfl, .inr ?_, by omega, by exact (by repeat (first | (with_reducible refine Below.setCell ?_ (by first | omega | (· simp) | (· (simp; omega))) _) | (with_reducible refine Below.alloc ?_ (by first | omega | (· simp) | (· (simp; omega))) _) | (with_reducible refine Below.drew ?_) | (with_reducible refine bdrewN ?_ _) | (with_reducible exact Below.refl _ _) | (with_reducible assumption) | (with_reducible refine Below.trans ?_ (Below.mono (by assumption) (by first | omega | (· simp) | (· (simp; omega))))) | (with_reducible refine Below.trans ?_ (Kp.below (by assumption) (by first | omega | (· simp) | (· (simp; omega))) (by first | omega | (· simp) | (· (simp; omega)))))))⟩
  show _ = _
  rw [HSZ.out]
  have e2 := hq2.out
  push_cast
  omega
set_option maxRecDepth 100000 in
set_option maxHeartbeats 1000000 in
theorem szTableS_all' (A : Option Addr) (c : Nat) (l : List E) (ht : ∀ y ∈ l, y.Ty Try.prog 176) : Sz 95 (.lst 2 176 A c l) := by
  intro left w hr h0 h1
  have hs := hr.sl
  have hlen := hs.len_le
  have HSZ : Hid ((E.lst 2 176 A c l).sz = l.length + E.szL l) := rfl
  change Calls _ _ #[.slice A l.length c, .int .i64 left] w _
  by_cases hneg : left - l.length < 0
  · go_enter Try.func95, Try.ntmps95
    go_wp2
    go_ret
    exact ⟨-1, rfl, .inl (by omega), by omega, by exact (by repeat (first | (with_reducible refine Below.setCell ?_ (by first | omega | (· simp) | (· (simp; omega))) _) | (with_reducible refine Below.alloc ?_ (by first | omega | (· simp) | (· (simp; omega))) _) | (with_reducible refine Below.drew ?_) | (with_reducible refine bdrewN ?_ _) | (with_reducible exact Below.refl _ _) | (with_reducible assumption) | (with_reducible refine Below.trans ?_ (Below.mono (by assumption) (by first | omega | (· simp) | (· (simp; omega))))) | (with_reducible refine Below.trans ?_ (Kp.below (by assumption) (by first | omega | (· simp) | (· (simp; omega))) (by first | omega | (· simp) | (· (simp; omega)))))))⟩
  go_enter Try.func95, Try.ntmps95
  go_wp2
  go_loopw [1, 5] (fun v i wr => ∃ (k : Nat) (cur : Int), k ≤ l.length ∧ i = .int .i64 k ∧ v = .int .i64 cur ∧ 0 ≤ cur ∧ cur ≤ left ∧ Hid (cur + E.szL (l.take k) + l.length = left) ∧ Below w.heap.size w wr) (fun _ i _ => l.length - (intOf i).toNat)
  case atStart => exact ⟨0, _, Nat.zero_le _, rfl, rfl, by omega, by omega, (by show _ = _; simp [E.szL]), Below.refl _ _⟩
  case round =>
    obtain ⟨k, cur, hk, rfl, rfl, hc0, hc1, HQ, hb⟩ := hrel
    have hzb := hb.size
    by_cases hlt : k < l.length
    · have hs' := hs.below hb (Nat.le_refl _)
      have HT := Lib.hid (E.szL_take l k hlt)
      obtain ⟨b, o, rfl, _, hc⟩ := hs'.at_ hlt
      have hin := (hr.el (List.getElem_mem hlt)).below hb (Nat.le_refl _)
      have H := szTable_all (ht _ (List.getElem_mem hlt))
      obtain ⟨y0, y1A, y1c, y1l, ex, gy0, gy1, -⟩ := shape_laws_Table (ht _ (List.getElem_mem hlt))
      have HEX := Lib.hid ex
      rw [ex] at hc hin H
      clear ex
      have c0 := hc 0 _ rfl; have c1 := hc 1 _ rfl
      rw [Nat.add_zero] at c0
      clear hc
      go_wp2_with fail
      go_at_call 149
      refine (H _ _ hin hc0 (by omega)).mono ?_; rintro e w1 ⟨r, rfl, hrs, hrl, hb1⟩
      by_cases hn : r < 0
      · go_wp2
        go_ret
        exact ⟨-1, rfl, .inl (by omega), by omega, by exact (by repeat (first | (with_reducible refine Below.setCell ?_ (by first | omega | (· simp) | (· (simp; omega))) _) | (with_reducible refine Below.alloc ?_ (by first | omega | (· simp) | (· (simp; omega))) _) | (with_reducible refine Below.drew ?_) | (with_reducible refine bdrewN ?_ _) | (with_reducible exact Below.refl _ _) | (with_reducible assumption) | (with_reducible refine Below.trans ?_ (Below.mono (by assumption) (by first | omega | (· simp) | (· (simp; omega))))) | (with_reducible refine Below.trans ?_ (Kp.below (by assumption) (by first | omega | (· simp) | (· (simp; omega))) (by first | omega | (· simp) | (· (simp; omega)))))))⟩
      · have HR := hrs.resolve_left hn
        clear hrs
        go_wp2
        go_roundw
        case rel => exact ⟨k + 1, r, by omega, by go_num, rfl, by omega, by omega, (by show _ = _; have e1 := HQ.out; have e2 := HT.out; have e3 := HR.out; rw [HEX.out] at e2; omega), by exact (by repeat (first | (with_reducible refine Below.setCell ?_ (by first | omega | (· simp) | (· (simp; omega))) _) | (with_reducible refine Below.alloc ?_ (by first | omega | (· simp) | (· (simp; omega))) _) | (with_reducible refine Below.drew ?_) | (with_reducible refine bdrewN ?_ _) | (with_reducible exact Below.refl _ _) | (with_reducible assumption) | (with_reducible refine Below.trans ?_ (Below.mono (by assumption) (by first | omega | (· simp) | (· (simp; omega))))) | (with_reducible refine Below.trans ?_ (Kp.below (by assumption) (by first | omega | (· simp) | (· (simp; omega))) (by first | omega | (· simp) | (· (simp; omega)))))))⟩
        case measure => simp [intOf]; omega
    · have hk' : k = l.length := by omega
      subst hk'
      go_wp2
      go_ret
      refine ⟨_, rfl, .inr ?_, by omega, hb⟩
      show _ = _
      have e1 := HQ.out
      rw [List.take_length] at e1
      rw [HSZ.out]
      push_cast
      omega
theorem szTableS_all {e : E} (ht : e.Ty Try.prog 61) : Sz 95 e := by
  obtain ⟨A, c, l, rfl, h1, _⟩ := ht.lst_ Try.underlying61 (k := 2) (by kernel_rfl)
  exact szTableS_all' A c l h1
set_option maxRecDepth 100000 in
set_option maxHeartbeats 1000000 in
theorem toTable_all {e : E} (ht : e.Ty Try.prog 176) : To 151 114 e := by
  have HT0 := Lib.hid ht
  obtain ⟨x0, x1A, x1c, x1l, rfl, gx0, gx1, -⟩ := shape_laws_Table ht
  intro w hr hsz
  have hsz' : (x0.size + ((E.lst 4 203 x1A x1c x1l).sz + 0)) ≤ 1048576 := hsz
  have hs1 : (E.lst 4 203 x1A x1c x1l).sz ≤ 1048576 := by omega
  clear hsz hsz'
  have hr1 := hr.fld (i := 1) rfl
  have ty1 : (E.lst 4 203 x1A x1c x1l).Ty Try.prog 174 := E.Ty.mk_lst Try.underlying174 (by kernel_rfl) gx1.1 gx1.2
  have HC1 := Lib.hid (toEntryS_all ty1)
  clear ty1
  change Calls _ _ #[.agg #[.string x0, .slice x1A x1l.length x1c]] w _
  go_enter Try.func151, Try.ntmps151
  go_wp2_with fail
  go_at_call 169
  refine (HC1.out _ (((hr1.alloc _).alloc _).alloc _) hs1).mono ?_; rintro e w1 ⟨v1, he, HD1, ht1, ho1, hn1, hb1⟩
  have HT1 := Lib.hid ht1
  have HN1 := Lib.hid hn1
  obtain ⟨A1, q1, l1, rfl, -, -⟩ := ht1.lst_ Try.underlying112 (k := 4) (by kernel_rfl)
  obtain rfl : e = .returned (.slice A1 l1.length q1) := he
  clear hn1 ht1
  have B0_1 : w1.heap[w.heap.size]? = some (.cells #[.string x0, .slice x1A x1l.length x1c] 176 (0, 0)) := (hb1.block (w.heap.size) (by simp; omega)).trans three.1
  have B1_1 : w1.heap[w.heap.size + 1]? = some (.cells #[.string ByteArray.empty, .slice none 0 0] 114 (0, 0)) := (hb1.block (w.heap.size + 1) (by simp)).trans three.2.1
  have B2_1 : w1.heap[w.heap.size + 1 + 1]? = some (.cells #[.string x0, .slice none 0 0] 114 (0, 0)) := (hb1.block (w.heap.size + 1 + 1) (by simp)).trans three.2.2
  have hz1 := hb1.size; simp only [World.size_alloc] at hz1
  have hB1 : Below w.heap.size w w1 := (by exact (by repeat (first | (with_reducible refine Below.setCell ?_ (by first | omega | (· simp) | (· (simp; omega))) _) | (with_reducible refine Below.alloc ?_ (by first | omega | (· simp) | (· (simp; omega))) _) | (with_reducible refine Below.drew ?_) | (with_reducible refine bdrewN ?_ _) | (with_reducible exact Below.refl _ _) | (with_reducible assumption) | (with_reducible refine Below.trans ?_ (Below.mono (by assumption) (by first | omega | (· simp) | (· (simp; omega))))) | (with_reducible refine Below.trans ?_ (Kp.below (by assumption) (by first | omega | (· simp) | (· (simp; omega))) (by first | omega | (· simp) | (· (simp; omega))))))) : Below w.heap.size w _).trans (hb1.mono (by simp; omega))
  have ho1 := ho1.wider (lo' := w.heap.size + 1 + 1 + 1) (by simp) (Nat.le_refl _)
  have c1_0 : w1.cell? ⟨w.heap.size, 0, none⟩ = some (.string x0) := cell_of B0_1 rfl
  have c1_1 : w1.cell? ⟨w.heap.size, 1, none⟩ = some (.slice x1A x1l.length x1c) := cell_of B0_1 rfl
  have d1_0 : w1.cell? ⟨w.heap.size + 1 + 1, 0, none⟩ = some (.string x0) := cell_of B2_1 rfl
  have d1_1 : w1.cell? ⟨w.heap.size + 1 + 1, 1, none⟩ = some (.slice none 0 0) := cell_of B2_1 rfl
  have f1 := frz_of B2_1
  have r0' := cell_of B1_1 (o := 0) rfl; have r1' := cell_of B1_1 (o := 1) rfl
  have fr' := frz_of B1_1
  go_wp2
  have OWN : Owns w1 (w.heap.size + 1 + 1 + 1) w1.heap.size [(E.str x0), (E.lst 4 116 A1 q1 l1)] := (Owns.leaf rfl (by simp only [E.Ho]) (Owns.cons (mid := w1.heap.size) ho1 HN1.out Owns.nil (by omega) (by omega)))
  refine bodyPost_ret (v := .agg #[.string x0, .slice A1 l1.length q1]) (ret_cell (t := 114) (fr := (0, 0)) rfl rfl Try.underlying114 (by kernel_rfl) ?_) rfl ⟨(E.agg [(E.str x0), (E.lst 4 116 A1 q1 l1)]), rfl, ?_, E.Ty.mk_agg Try.underlying114 (E.TyF.mk_cons (show E.Ty _ _ _ from ⟨Try.underlying9, by unfold maxLen; exact gx0⟩) (E.TyF.mk_cons HT1.out (E.TyF.mk_nil))), ?_, ?_, ?_⟩
  · simp only [heap_set, B1_1, B2_1]; simp [setAt]
  · show E.d _ = E.d _
    simp only [E.d, E.dL]
    have y1 := HD1.out; simp only [E.d, E.dL] at y1
    simp only [E.agg.injEq, List.cons.injEq, E.lst.injEq, E.int.injEq, E.str.injEq, E.bool.injEq, true_and, and_true] at *
    simp [*]
  · exact ((E.Ho.mk_agg OWN.1).kp (lo' := w.heap.size + 1) (hi' := w.heap.size + 1 + 1 + 1) (by repeat (first | (with_reducible exact Kp.refl _ _ _) | (refine Kp.set ?_ (by first | omega | (dsimp only; omega) | (simp; omega)) (by first | omega | (dsimp only; omega) | (simp; omega)) _))) (.inr (by omega))).wider (by omega) (by simp)
  · exact OWN.2
  · exact hB1.trans (Kp.below (lo := w.heap.size + 1) (hi := w.heap.size + 1 + 1 + 1) (by repeat (first | (with_reducible exact Kp.refl _ _ _) | (refine Kp.set ?_ (by first | omega | (dsimp only; omega) | (simp; omega)) (by first | omega | (dsimp only; omega) | (simp; omega)) _))) (by omega) (by omega))
theorem einfoTable : (Try.prog.info? 114).map (fun i => (i.zero, i.size, i.bytes)) = some (some (.agg #[.string ByteArray.empty, .slice none 0 0]), 2, 40) := by kernel_rfl
set_option maxRecDepth 100000 in
set_option maxHeartbeats 1000000 in
theorem toTableS_all' (A : Option Addr) (c : Nat) (l : List E) (h1 : ∀ y ∈ l, y.Ty Try.prog 176) : To 97 43 (.lst 2 176 A c l) := by
  intro w hr hsz
  have hs := hr.sl
  have eS : (E.lst 2 176 A c l).sz = l.length + E.szL l := rfl
  have hn : l.length ≤ 1048576 := by omega
  have HS := Lib.hid (show l.length + E.szL l ≤ 1048576 by omega)
  clear eS hsz
  have hmk := mk_eq Try.underlying43 einfoTable l.length (by omega) (by omega)
  have hF := Fill.new w 114 #[.string ByteArray.empty, .slice none 0 0] (l.length * 2) ([] : List Value)
  change Calls _ _ #[.slice A l.length c] w _
  go_enter Try.func97, Try.ntmps97
  go_wp2
  go_loopw [4] (fun i wr => ∃ (k : Nat) (us : List E), k ≤ l.length ∧ i = .int .i64 k ∧ Hid (us.length = k) ∧ Hid (us.map E.d = (l.take k).map E.d) ∧ Hid (∀ u ∈ us, u.Ty Try.prog 114 ∧ u.enc.length = 2) ∧ Fill wr w.heap.size 114 (l.length * 2) (k * 2) (E.encL us) ∧ w.heap.size + 1 ≤ wr.heap.size ∧ Hid (∀ u ∈ us, u.Ho wr (w.heap.size + 1) wr.heap.size) ∧ Hid ((E.fpL us).Nodup) ∧ Below w.heap.size w wr) (fun i _ => l.length - (intOf i).toNat)
  case atStart => exact ⟨0, [], Nat.zero_le _, rfl, rfl, rfl, (fun u hu => absurd hu List.not_mem_nil), by exact hF, by simp, (fun u hu => absurd hu List.not_mem_nil), (by show List.Nodup _; simp [E.fpL]), by exact (by repeat (first | (with_reducible refine Below.setCell ?_ (by first | omega | (· simp) | (· (simp; omega))) _) | (with_reducible refine Below.alloc ?_ (by first | omega | (· simp) | (· (simp; omega))) _) | (with_reducible refine Below.drew ?_) | (with_reducible refine bdrewN ?_ _) | (with_reducible exact Below.refl _ _) | (with_reducible assumption) | (with_reducible refine Below.trans ?_ (Below.mono (by assumption) (by first | omega | (· simp) | (· (simp; omega))))) | (with_reducible refine Below.trans ?_ (Kp.below (by assumption) (by first | omega | (· simp) | (· (simp; omega))) (by first | omega | (· simp) | (· (simp; omega)))))))⟩
  case round =>
    obtain ⟨k, us, hk, rfl, HL, HD, HT, hf, hge, HO, HN, hb⟩ := hrel
    by_cases hlt : k < l.length
    · have hs' := hs.below hb (Nat.le_refl _)
      have hzb := hb.size
      have hmem := List.getElem_mem hlt
      have hin := (hr.el hmem).below hb (Nat.le_refl _)
      have H := toTable_all (h1 _ hmem)
      have hsk : l[k].sz ≤ 1048576 := by have := E.szL_mem hmem; have := HS.out; omega
      obtain ⟨b, o, rfl, _, hc⟩ := hs'.at_ hlt
      obtain ⟨y0, y1A, y1c, y1l, ex, gy0, gy1, -⟩ := shape_laws_Table (h1 _ hmem)
      have HEX := Lib.hid ex
      rw [ex] at hc hin H hsk
      clear ex
      have c0 := hc 0 _ rfl; have c1 := hc 1 _ rfl
      rw [Nat.add_zero] at c0
      clear hc
      have HF := Lib.hid hf
      clear hf
      go_wp2_with fail
      go_at_call 151
      refine (H _ hin hsk).mono ?_; rintro e w1 ⟨x, he, HDX, htx, hox, hnx, hb1⟩
      have HTX := Lib.hid htx
      obtain ⟨z0, z1A, z1c, z1l, rfl, gz0, gz1, -⟩ := shape_impl_Table htx
      obtain rfl : e = .returned (.agg #[.string z0, .slice z1A z1l.length z1c]) := he
      have hf1 := HF.out.below hb1 HF.out.lt
      obtain ⟨u0, c0'⟩ := hf1.cell (j := k * 2) (by omega); obtain ⟨u1, c1'⟩ := hf1.cell (j := k * 2 + 1) (by omega)
      have zfr := hf1.frozen
      have hz1 := hb1.size
      have HOX := Lib.hid hox
      have HNX := Lib.hid hnx
      have HF1 := Lib.hid hf1
      clear hox hnx hf1 htx
      go_wp2
      go_roundw
      case rel =>
        have hl := HL.out
        have hf1 := HF1.out
        have hT : ∀ u ∈ us ++ [(E.agg [.str z0, .lst 4 116 z1A z1c z1l])], u.Ty Try.prog 114 ∧ u.enc.length = 2 := fun u hu => by
          rcases List.mem_append.1 hu with hu | hu
          · exact HT.out u hu
          · obtain rfl := List.mem_singleton.1 hu
            exact ⟨HTX.out, rfl⟩
        have hlen := E.encL_len fun u hu => (HT.out u hu).2
        have hk2 : k < (us ++ [(E.agg [.str z0, .lst 4 116 z1A z1c z1l])]).length := by simp; omega
        have ev := fun j hj => E.encL_at (fun u hu => (hT u hu).2) k hk2 j hj
        have eT : (us ++ [(E.agg [.str z0, .lst 4 116 z1A z1c z1l])])[k] = (E.agg [.str z0, .lst 4 116 z1A z1c z1l]) := by rw [List.getElem_append_right (by omega)]; simp [hl]
        simp only [eT] at ev
        have hf2 : Fill w1 w.heap.size 114 (l.length * 2) (k * 2) (E.encL (us ++ [(E.agg [.str z0, .lst 4 116 z1A z1c z1l])])) := hf1.swap' fun j hj => E.encL_app_lt us _ j (by rw [hlen, hl]; exact hj)

        have K := fun (W : World) (h : Kp w.heap.size (w.heap.size + 1) w1 W) (u : E) (hu : u ∈ us) => ((HO.out u hu).below hb1 (Nat.le_refl _)).kp h (.inr (by omega))
        refine ⟨k + 1, us ++ [(E.agg [.str z0, .lst 4 116 z1A z1c z1l])], by omega, by go_num, by show _ = _; simp [hl], d_take hlt HD.out (HDX.out.trans (by rw [← HEX.out])), hT, by rw [Nat.add_mul]; exact ((hf2.set (by omega) (ev 0 (by omega))).set (by omega) (ev 1 (by omega))), by simp; omega, ?_, ?_, by exact (by repeat (first | (with_reducible refine Below.setCell ?_ (by first | omega | (· simp) | (· (simp; omega))) _) | (with_reducible refine Below.alloc ?_ (by first | omega | (· simp) | (· (simp; omega))) _) | (with_reducible refine Below.drew ?_) | (with_reducible refine bdrewN ?_ _) | (with_reducible exact Below.refl _ _) | (with_reducible assumption) | (with_reducible refine Below.trans ?_ (Below.mono (by assumption) (by first | omega | (· simp) | (· (simp; omega))))) | (with_reducible refine Below.trans ?_ (Kp.below (by assumption) (by first | omega | (· simp) | (· (simp; omega))) (by first | omega | (· simp) | (· (simp; omega)))))))⟩
        · intro u hu
          rcases List.mem_append.1 hu with hu | hu
          · exact (K _ (by repeat (first | (with_reducible exact Kp.refl _ _ _) | (refine Kp.set ?_ (by first | omega | (dsimp only; omega) | (simp; omega)) (by first | omega | (dsimp only; omega) | (simp; omega)) _))) u hu).wider (Nat.le_refl _) (by simp; omega)
          · obtain rfl := List.mem_singleton.1 hu
            exact (HOX.out.kp (lo' := w.heap.size) (hi' := w.heap.size + 1) (by repeat (first | (with_reducible exact Kp.refl _ _ _) | (refine Kp.set ?_ (by first | omega | (dsimp only; omega) | (simp; omega)) (by first | omega | (dsimp only; omega) | (simp; omega)) _))) (.inr (by omega))).wider (by omega) (by simp)
        · refine nodup_snoc HN.out HNX.out fun g hg hg2 => ?_
          obtain ⟨u, hu, hg⟩ := E.mem_fpL.1 hg
          have := (HO.out u hu).lt g hg
          have := HOX.out.lt g hg2
          omega
      case measure => simp [intOf]; omega
    · have hk' : k = l.length := by omega
      subst hk'
      go_wp2
      go_ret
      have hl := HL.out
      have hTy := HT.out
      have own : wr.ownsRow w.heap.size 114 2 (.slice (some ⟨w.heap.size, 0, none⟩) l.length l.length) l.length (E.encL us) := hf.owns (Nat.le_refl _) rfl (by rw [E.encL_len fun u hu => (hTy u hu).2, hl]) (by unfold maxLen; omega)
      rw [← hl] at own
      refine ⟨.lst 2 114 (some ⟨w.heap.size, 0, none⟩) us.length us, by rw [← hl]; rfl, ?_, E.Ty.mk_lst Try.underlying43 (by kernel_rfl) (fun u hu => (hTy u hu).1) (fun u hu => (hTy u hu).2), E.Ho.mk (Ow.of_owns own (Nat.le_refl _)) (fun u hu => (hTy u hu).2) (fun u hu => (HO.out u hu).wider (by omega) (Nat.le_refl _)), ?_, hb⟩
      · show E.d _ = E.d _
        rw [lst_d]
        have h := HD.out
        rwa [List.take_length] at h
      · simp only [E.fp, List.singleton_append, List.nodup_cons]
        refine ⟨fun hm => ?_, HN.out⟩
        obtain ⟨u, hu, hg⟩ := E.mem_fpL.1 hm
        have := (HO.out u hu).lt _ hg
        omega
theorem toTableS_all {e : E} (ht : e.Ty Try.prog 61) : To 97 43 e := by
  obtain ⟨A, c, l, rfl, h1, _⟩ := ht.lst_ Try.underlying61 (k := 2) (by kernel_rfl)
  exact toTableS_all' A c l h1
set_option maxRecDepth 100000 in
set_option maxHeartbeats 1000000 in
theorem eqTable_all {e e' : E} (ht : e.Ty Try.prog 114) (ht' : e'.Ty Try.prog 114) : Eq 153 e e' := by
  obtain ⟨x0, x1A, x1c, x1l, rfl, gx0, gx1, -⟩ := shape_impl_Table ht
  obtain ⟨y0, y1A, y1c, y1l, rfl, gy0, gy1, -⟩ := shape_impl_Table ht'
  intro hd w hr hr'
  simp only [E.d, E.dL, E.agg.injEq, List.cons.injEq, E.int.injEq, E.str.injEq, E.bool.injEq, E.lst.injEq, true_and, and_true] at hd
  obtain ⟨rfl, hd1⟩ := hd
  have hr1 := ((hr.fld (i := 1) rfl).alloc (.cells #[.string x0, .slice x1A x1l.length x1c] 114)).alloc (.cells #[.string x0, .slice y1A y1l.length y1c] 114)
  have hs1 := ((hr'.fld (i := 1) rfl).alloc (.cells #[.string x0, .slice x1A x1l.length x1c] 114)).alloc (.cells #[.string x0, .slice y1A y1l.length y1c] 114)
  have t1 : (E.lst 4 116 x1A x1c x1l).Ty Try.prog 112 := E.Ty.mk_lst Try.underlying112 (by kernel_rfl) gx1.1 gx1.2
  have u1 : (E.lst 4 116 y1A y1c y1l).Ty Try.prog 112 := E.Ty.mk_lst Try.underlying112 (by kernel_rfl) gy1.1 gy1.2
  have HC1 := Lib.hid (eqEntryS_all t1 u1 (by simp only [E.d, E.dL, E.agg.injEq, List.cons.injEq, E.int.injEq, E.str.injEq, E.bool.injEq, E.lst.injEq, true_and, and_true]; exact hd1))
  clear t1 u1
  clear hd1
  change Calls _ _ #[.agg #[.string x0, .slice x1A x1l.length x1c], .agg #[.string x0, .slice y1A y1l.length y1c]] w _
  go_enter Try.func153, Try.ntmps153
  go_wp2_with fail
  go_at_call 170
  refine (HC1.out _ hr1 hs1).mono ?_; rintro e w1 ⟨rfl, hb1⟩
  have hz1 := hb1.size; (try simp only [World.size_alloc] at hz1)
  go_wp2
  go_ret
  exact ⟨rfl, (by repeat (first | (with_reducible refine Below.setCell ?_ (by first | omega | (· simp) | (· (simp; omega))) _) | (with_reducible refine Below.alloc ?_ (by first | omega | (· simp) | (· (simp; omega))) _) | (with_reducible refine Below.drew ?_) | (with_reducible refine bdrewN ?_ _) | (with_reducible exact Below.refl _ _) | (with_reducible assumption) | (with_reducible refine Below.trans ?_ (Below.mono (by assumption) (by first | omega | (· simp) | (· (simp; omega))))) | (with_reducible refine Below.trans ?_ (Kp.below (by assumption) (by first | omega | (· simp) | (· (simp; omega))) (by first | omega | (· simp) | (· (simp; omega)))))))⟩
set_option maxRecDepth 100000 in
set_option maxHeartbeats 1000000 in
theorem eqTableS_all' (A B : Option Addr) (c c' : Nat) (l m : List E) (h1 : ∀ y ∈ l, y.Ty Try.prog 114) (h2 : ∀ y ∈ m, y.Ty Try.prog 114) : Eq 99 (.lst 2 114 A c l) (.lst 2 114 B c' m) := by
  intro hd w hr hr'
  rw [lst_d] at hd
  have hs := hr.sl
  have hs' := hr'.sl
  have hml := d_len hd
  have HD := Lib.hid hd
  clear hd
  have hlen := hs.len_le
  change Calls _ _ #[.slice A l.length c, .slice B m.length c'] w _
  obtain ⟨N, HN⟩ : ∃ N, Hid (m.length = N) := ⟨_, rfl⟩
  have hN : N = l.length := by have := HN.out; omega
  subst hN
  rw [HN.out]
  clear hml
  go_enter Try.func99, Try.ntmps99
  go_wp2
  go_loopw [5] (fun i wr => ∃ (k : Nat), k ≤ l.length ∧ i = .int .i64 k ∧ Below w.heap.size w wr) (fun i _ => l.length - (intOf i).toNat)
  case atStart => exact ⟨0, Nat.zero_le _, rfl, Below.refl _ _⟩
  case round =>
    obtain ⟨k, hk, rfl, hb⟩ := hrel
    by_cases hlt : k < l.length
    · have hltm : k < m.length := by have := HN.out; omega
      have hsb := hs.below hb (Nat.le_refl _)
      have hsb' := hs'.below hb (Nat.le_refl _)
      have hdk := d_at HD.out hlt hltm
      obtain ⟨b, o, rfl, _, hc⟩ := hsb.at_ hlt
      obtain ⟨b', o', rfl, _, hd⟩ := hsb'.at_ hltm
      have hin := (hr.el (List.getElem_mem hlt)).below hb (Nat.le_refl _)
      have hin' := (hr'.el (List.getElem_mem hltm)).below hb (Nat.le_refl _)
      have H := eqTable_all (h1 _ (List.getElem_mem hlt)) (h2 _ (List.getElem_mem hltm)) hdk
      obtain ⟨x0, x1A, x1c, x1l, ex, gx0, gx1, -⟩ := shape_impl_Table (h1 _ (List.getElem_mem hlt))
      obtain ⟨y0, y1A, y1c, y1l, ey, gy0, gy1, -⟩ := shape_impl_Table (h2 _ (List.getElem_mem hltm))
      rw [ex] at hc hin
      rw [ey] at hd hin'
      rw [ex, ey] at H
      clear ex ey hdk
      have c0 := hc 0 _ rfl; have c1 := hc 1 _ rfl
      have d0 := hd 0 _ rfl; have d1 := hd 1 _ rfl
      rw [Nat.add_zero] at c0 d0
      clear hc hd
      have hzb := hb.size
      have HH := Lib.hid H
      clear H
      go_wp2
      go_region_held3 (fun w' => w'.cell? ⟨b, o + k * 2, none⟩ = some (.string x0) ∧ w'.cell? ⟨b, o + k * 2 + 1, none⟩ = some (.slice x1A x1l.length x1c) ∧ w'.cell? ⟨b', o' + k * 2, none⟩ = some (.string y0) ∧ w'.cell? ⟨b', o' + k * 2 + 1, none⟩ = some (.slice y1A y1l.length y1c))
        (first | exact ⟨c0, c1, d0, d1⟩ | skip)
        ((go_at_call 153; refine (HH.out _ (by repeat (first | (with_reducible assumption) | (with_reducible refine E.In.drew ?_) | (with_reducible refine E.In.drewN ?_ _) | (with_reducible refine E.In.alloc ?_ _) | (refine E.In.below ?_ (by with_reducible assumption) ?_) | omega | (· simp) | (· (simp; omega)))) (by repeat (first | (with_reducible assumption) | (with_reducible refine E.In.drew ?_) | (with_reducible refine E.In.drewN ?_ _) | (with_reducible refine E.In.alloc ?_ _) | (refine E.In.below ?_ (by with_reducible assumption) ?_) | omega | (· simp) | (· (simp; omega))))).mono ?_; rintro e w1 ⟨rfl, hb1⟩; have c0 := cell_below hb1 c0 (by first | omega | (· simp) | (· (simp; omega))); have c1 := cell_below hb1 c1 (by first | omega | (· simp) | (· (simp; omega))); have d0 := cell_below hb1 d0 (by first | omega | (· simp) | (· (simp; omega))); have d1 := cell_below hb1 d1 (by first | omega | (· simp) | (· (simp; omega)))))
      go_wp2
      go_roundw
      case rel => exact ⟨k + 1, by omega, by go_num, by exact (by repeat (first | (with_reducible refine Below.setCell ?_ (by first | omega | (· simp) | (· (simp; omega))) _) | (with_reducible refine Below.alloc ?_ (by first | omega | (· simp) | (· (simp; omega))) _) | (with_reducible refine Below.drew ?_) | (with_reducible refine bdrewN ?_ _) | (with_reducible exact Below.refl _ _) | (with_reducible assumption) | (with_reducible refine Below.trans ?_ (Below.mono (by assumption) (by first | omega | (· simp) | (· (simp; omega))))) | (with_reducible refine Below.trans ?_ (Kp.below (by assumption) (by first | omega | (· simp) | (· (simp; omega))) (by first | omega | (· simp) | (· (simp; omega)))))))⟩
      case measure => simp [intOf]; omega
    · go_wp2
      go_ret
      exact ⟨rfl, hb⟩
theorem eqTableS_all {e e' : E} (ht : e.Ty Try.prog 43) (ht' : e'.Ty Try.prog 43) : Eq 99 e e' := by
  obtain ⟨A, c, l, rfl, h1, _⟩ := ht.lst_ Try.underlying43 (k := 2) (by kernel_rfl)
  obtain ⟨B, c', m, rfl, h2, _⟩ := ht'.lst_ Try.underlying43 (k := 2) (by kernel_rfl)
  exact eqTableS_all' A B c c' l m h1 h2
set_option maxRecDepth 100000 in
set_option maxHeartbeats 1000000 in
theorem markTableS_all' (A : Option Addr) (c : Nat) (l : List E) (h1 : ∀ y ∈ l, y.Ty Try.prog 114) (h2 : ∀ y ∈ l, y.enc.length = 2) : Mar 111 (.lst 2 114 A c l) := by
  intro lo hi k0 w ho hnd hhi hk0 hk1
  have HCN : Hid ((E.lst 2 114 A c l).cnt = E.cntcL l) := rfl
  rw [HCN.out] at hk1
  have HND := Lib.hid hnd
  clear hnd
  have hlen := ho.re.sl.len_le
  have how0 := ho
  rw [← mixM_zero l k0] at how0
  clear ho
  change Calls _ _ #[.slice A l.length c, .int .i64 k0] w _
  rw [HCN.out]
  change Calls _ _ _ w fun r w' => r = .returned (.int .i64 (k0 + (E.cntcL l : Nat))) ∧ (E.lst 2 114 A c (E.mkcL l k0)).Ho w' lo hi ∧ Fr (E.lst 2 114 A c l).fp w w'
  go_enter Try.func111, Try.ntmps111
  go_wp2
  go_loopw [1, 5] (fun v i wr => ∃ (k : Nat) (q : Int), k ≤ l.length ∧ i = .int .i64 k ∧ v = .int .i64 q ∧ Hid (q = k0 + (E.cntcL (l.take k) : Nat)) ∧ Fr (E.lst 2 114 A c l).fp w wr ∧ Hid ((E.lst 2 114 A c (mixM l k0 k)).Ho wr lo hi)) (fun _ i _ => l.length - (intOf i).toNat)
  case atStart => exact ⟨0, k0, Nat.zero_le _, rfl, rfl, (by show _ = _; simp [E.cntcL]), Fr.refl _ _, how0⟩
  case round =>
    obtain ⟨k, q, hk, rfl, rfl, HQ, hF0, HOW⟩ := hrel
    have hzk := hF0.size
    by_cases hlt : k < l.length
    · have HT := Lib.hid (E.cntcL_take l k hlt)
      have hq0 : 0 ≤ q := by have := HQ.out; omega
      have hml : k < (mixM l k0 k).length := by rw [mixM_len]; exact hlt
      have how := HOW.out
      obtain ⟨g, rfl, hg1, hg2, hg3⟩ := how.head (by omega)
      obtain ⟨y0, y1A, y1c, y1l, ex, gy0, gy1, -⟩ := shape_impl_Table (h1 _ (List.getElem_mem hlt))
      have HC1 := Lib.hid (markEntryS_all (show (E.lst 4 116 y1A y1c y1l).Ty Try.prog 112 from E.Ty.mk_lst Try.underlying112 (by kernel_rfl) gy1.1 gy1.2))
      have HCX : Hid ((E.agg [.str y0, .lst 4 116 y1A y1c y1l]).cntc = (1 + ((E.lst 4 116 y1A y1c y1l).cnt + 0))) := rfl
      have hq1 : q + (((1 + ((E.lst 4 116 y1A y1c y1l).cnt + 0)) : Nat) : Int) ≤ 1152921504606846976 := by have e1 := HQ.out; have e2 := HT.out; have e3 := E.cntcL_le l (k + 1); rw [ex, HCX.out] at e2; omega
      have e0 : mixM l k0 k = (mixM l k0 k).set k (E.agg [.str y0, .lst 4 116 y1A y1c y1l]) := by rw [← ex, ← mixM_at l k0 k hlt]; exact (List.set_getElem_self _).symm
      have HN2 := Lib.hid (fun (z : E) (hz : z.fp = (E.agg [.str y0, .lst 4 116 y1A y1c y1l]).fp) => (show (E.lst 2 114 (some ⟨g, 0, none⟩) c ((mixM l k0 k).set k z)).fp.Nodup by have hh := HND.out; have h3 : E.fpL ((mixM l k0 k).set k z) = E.fpL l := (E.fpL_set hml (by rw [hz, ← ex, mixM_at l k0 k hlt])).trans (mixM_fp l k0 k); simp only [E.fp] at hh ⊢; rw [h3]; exact hh))
      have HSB := Lib.hid (fun (b : Nat) (hb : b ∈ (E.agg [.str y0, .lst 4 116 y1A y1c y1l]).fp) => (show b ∈ (E.lst 2 114 (some ⟨g, 0, none⟩) c l).fp by simp only [E.fp]; exact List.mem_append_right _ (E.mem_fpL.2 ⟨l[k], List.getElem_mem hlt, by rw [ex]; exact hb⟩)))
      have hgm : g ∈ (E.lst 2 114 (some ⟨g, 0, none⟩) c l).fp := by simp [E.fp]
      have HGM := Lib.hid hgm
      clear hgm
      rw [e0] at how
      clear e0
      obtain ⟨ms, HMS⟩ : ∃ ms, Hid (mixM l k0 k = ms) := ⟨_, rfl⟩
      rw [HMS.out] at how hml HN2
      have HEX := Lib.hid ex
      clear ex
      have HML := Lib.hid hml
      clear hml
      have H0 := Lib.hid how
      clear how
      have c0_0 : wr.cell? ⟨g, k * 2, none⟩ = some (.string y0) := H0.out.cellx (j := 0) (u := .string y0) (by simpa using HML.out) (set_at HML.out _) rfl
      have c0_1 : wr.cell? ⟨g, k * 2 + 1, none⟩ = some (.slice y1A y1l.length y1c) := H0.out.cellx (j := 1) (u := .slice y1A y1l.length y1c) (by simpa using HML.out) (set_at HML.out _) rfl
      have fz0 := H0.out.frzx
      go_wp2_with fail
      clear c0_0 c0_1 fz0
      go_at_call 112
      refine (markText_any _ _ (by omega)).mono ?_; rintro e w1 ⟨rfl, hb1⟩
      have hz1 := hb1.size; (try simp only [World.size_setCell] at hz1)
      have H1 := Lib.hid (H0.out.below hb1 (by first | omega | (simp; omega)))
      clear H0
      have hF1 : Fr (E.lst 2 114 (some ⟨g, 0, none⟩) c l).fp w w1 := hF0.trans (Fr.of_below hb1)
      have c1_0 : w1.cell? ⟨g, k * 2, none⟩ = some (.string y0) := H1.out.cellx (j := 0) (u := .string y0) (by simpa using HML.out) (set_at HML.out _) rfl
      have c1_1 : w1.cell? ⟨g, k * 2 + 1, none⟩ = some (.slice y1A y1l.length y1c) := H1.out.cellx (j := 1) (u := .slice y1A y1l.length y1c) (by simpa using HML.out) (set_at HML.out _) rfl
      have fz1 := H1.out.frzx
      go_wp2_with fail
      have H2 : Hid ((E.lst 2 114 (some ⟨g, 0, none⟩) c (ms.set k (E.agg [(E.str (markT (q))), (E.lst 4 116 y1A y1c y1l)]))).Ho (w1.setCell ⟨g, k * 2, none⟩ (.string (markT (q)))) lo hi) := H1.out.store (HN2.out _ rfl) HML.out (E.agg [(E.str (markT (q))), (E.lst 4 116 y1A y1c y1l)]) 0 (.string (markT (q))) (by omega) rfl (fun _ h => h)
      clear H1
      clear c1_0 c1_1 fz1
      have ho2 : (E.lst 4 116 y1A y1c y1l).Ho (w1.setCell ⟨g, k * 2, none⟩ (.string (markT (q)))) lo hi := (E.Ho.fld (i := 1) (H2.out.el (set_mem HML.out _)) rfl)
      have HNn2 : Hid ((E.lst 4 116 y1A y1c y1l).fp.Nodup) := (nodup_mem (show (E.fpL [(E.str (markT (q))), (E.lst 4 116 y1A y1c y1l)]).Nodup from (nodup_mem (show (E.fpL (ms.set k (E.agg [(E.str (markT (q))), (E.lst 4 116 y1A y1c y1l)]))).Nodup from (List.nodup_append.1 (show List.Nodup (_ ++ _) from HN2.out (E.agg [(E.str (markT (q))), (E.lst 4 116 y1A y1c y1l)]) rfl)).2.1) (set_mem HML.out _))) (show (E.lst 4 116 y1A y1c y1l) ∈ [(E.str (markT (q))), (E.lst 4 116 y1A y1c y1l)] by simp))
      go_at_call 159
      refine (HC1.out lo hi _ _ ho2 HNn2.out (by first | omega | (simp; omega)) (by omega) (by omega)).mono ?_; rintro e w2 ⟨rfl, hm2, hf2⟩
      have hz2 := hf2.size; (try simp only [World.size_setCell] at hz2)
      have hin2 : (E.agg [(E.str (markT (q))), (E.lst 4 116 y1A y1c (E.mkcL y1l (q + 1)))]).Ho w2 lo hi := (Ho_repl (i := 1) (H2.out.el (set_mem HML.out _)) (nodup_mem (show (E.fpL (ms.set k (E.agg [(E.str (markT (q))), (E.lst 4 116 y1A y1c y1l)]))).Nodup from (List.nodup_append.1 (show List.Nodup (_ ++ _) from HN2.out (E.agg [(E.str (markT (q))), (E.lst 4 116 y1A y1c y1l)]) rfl)).2.1) (set_mem HML.out _)) (by simp) (show Fr (E.lst 4 116 y1A y1c y1l).fp _ _ from hf2) hm2)
      have H3 := Lib.hid (H2.out.inside (HN2.out _ rfl) HML.out (E.agg [(E.str (markT (q))), (E.lst 4 116 y1A y1c (E.mkcL y1l (q + 1)))]) hf2 (fun b hb => by simp only [E.fp, E.fpL, List.mem_append, List.nil_append, List.append_nil] at hb ⊢; simp [hb]) (by simp only [E.enc, E.encL, E.mkcL_len]) hin2)
      clear H2 hin2 ho2 hm2
      have hF2 : Fr (E.lst 2 114 (some ⟨g, 0, none⟩) c l).fp w w2 := (hF1.set HGM.out (.string (markT (q)))).trans (hf2.sub (fun b hb => HSB.out b (by simp only [E.fp, E.fpL, List.mem_append, List.nil_append, List.append_nil] at hb ⊢; simp [hb])))
      have c2_0 : w2.cell? ⟨g, k * 2, none⟩ = some (.string (markT (q))) := H3.out.cellx (j := 0) (u := .string (markT (q))) (by simpa using HML.out) (set_at HML.out _) rfl
      have c2_1 : w2.cell? ⟨g, k * 2 + 1, none⟩ = some (.slice y1A (E.mkcL y1l (q + 1)).length y1c) := H3.out.cellx (j := 1) (u := .slice y1A (E.mkcL y1l (q + 1)).length y1c) (by simpa using HML.out) (set_at HML.out _) rfl
      have fz2 := H3.out.frzx
      go_wp2
      go_roundw
      case rel =>
        have FF : ∀ t0 t1 : Int, (q) = t0 → (q + 1) = t1 → (E.agg [(E.str (markT (q))), (E.lst 4 116 y1A y1c (E.mkcL y1l (q + 1)))]) = (E.agg [(E.str (markT t0)), (E.lst 4 116 y1A y1c (E.mkcL y1l t1))]) := by
          intro t0 t1 ht0 ht1
          subst ht0
          subst ht1
          rfl
        have EX : (E.agg [(E.str (markT (q))), (E.lst 4 116 y1A y1c (E.mkcL y1l (q + 1)))]) = (E.agg [.str y0, .lst 4 116 y1A y1c y1l]).mkc q := FF _ _ (by first | rfl | omega | (show _ = _; simp only [E.cnt, E.cntL, E.cntc, E.cntcL, reduceCtorEq, if_false, if_true, ite_false]; omega)) (by first | rfl | omega | (show _ = _; simp only [E.cnt, E.cntL, E.cntc, E.cntcL, reduceCtorEq, if_false, if_true, ite_false]; omega))
        exact ⟨k + 1, _, by omega, by go_num, rfl, (by show _ = _; have e1 := HQ.out; have e2 := HT.out; rw [HEX.out, HCX.out] at e2; omega), hF2, (by show E.Ho _ _ _ _; rw [← mixM_succ l k0 k hlt, HEX.out, ← HQ.out, ← EX, HMS.out]; exact H3.out)⟩
      case measure => simp [intOf]; omega
    · have hk' : k = l.length := by omega
      subst hk'
      go_wp2
      go_ret
      have e1 := HQ.out
      rw [List.take_length] at e1
      have h := HOW.out
      rw [mixM_end] at h
      exact ⟨ri e1, h, hF0⟩
set_option maxRecDepth 100000 in
set_option maxHeartbeats 1000000 in
theorem heldTableS_all' (A : Option Addr) (c : Nat) (l : List E) (h1 : ∀ y ∈ l, y.Ty Try.prog 114) (h2 : ∀ y ∈ l, y.enc.length = 2) : Hel 114 (.lst 2 114 A c l) := by
  intro k0 w hr h0 hk1
  have HCN : Hid ((E.lst 2 114 A c l).cnt = E.cntcL l) := rfl
  rw [HCN.out] at hk1
  change (E.lst 2 114 A c (E.mkcL l k0)).In w at hr
  have hs := hr.sl
  have hlen := hs.len_le
  rw [E.mkcL_len] at hlen
  change Calls _ _ #[.slice A l.length c, .int .i64 k0] w _
  rw [HCN.out]
  change Calls _ _ _ w fun r w' => r = .returned (.int .i64 (k0 + (E.cntcL l : Nat))) ∧ Below w.heap.size w w'
  go_enter Try.func114, Try.ntmps114
  go_wp2
  go_loopw [1, 5] (fun v i wr => ∃ (k : Nat) (q : Int), k ≤ l.length ∧ i = .int .i64 k ∧ v = .int .i64 q ∧ Hid (q = k0 + (E.cntcL (l.take k) : Nat)) ∧ Below w.heap.size w wr) (fun _ i _ => l.length - (intOf i).toNat)
  case atStart => exact ⟨0, k0, Nat.zero_le _, rfl, rfl, (by show _ = _; simp [E.cntcL]), Below.refl _ _⟩
  case round =>
    obtain ⟨k, q, hk, rfl, rfl, HQ, hb⟩ := hrel
    have hzb := hb.size
    by_cases hlt : k < l.length
    · have HT := Lib.hid (E.cntcL_take l k hlt)
      have hq0 : 0 ≤ q := by have := HQ.out; omega
      have hlm : k < (E.mkcL l k0).length := by rw [E.mkcL_len]; exact hlt
      obtain ⟨y0, y1A, y1c, y1l, ex, gy0, gy1, -⟩ := shape_impl_Table (h1 _ (List.getElem_mem hlt))
      have HC1 := Lib.hid (heldEntryS_all (show (E.lst 4 116 y1A y1c y1l).Ty Try.prog 112 from E.Ty.mk_lst Try.underlying112 (by kernel_rfl) gy1.1 gy1.2))
      have HCX : Hid ((E.agg [.str y0, .lst 4 116 y1A y1c y1l]).cntc = (1 + ((E.lst 4 116 y1A y1c y1l).cnt + 0))) := rfl
      have hq1 : q + (((1 + ((E.lst 4 116 y1A y1c y1l).cnt + 0)) : Nat) : Int) ≤ 1152921504606846976 := by have e1 := HQ.out; have e2 := HT.out; have e3 := E.cntcL_le l (k + 1); rw [ex, HCX.out] at e2; omega
      have FF : ∀ t0 t1 : Int, (q) = t0 → (q + 1) = t1 → (E.agg [(E.str (markT (q))), (E.lst 4 116 y1A y1c (E.mkcL y1l (q + 1)))]) = (E.agg [(E.str (markT t0)), (E.lst 4 116 y1A y1c (E.mkcL y1l t1))]) := by
        intro t0 t1 ht0 ht1
        subst ht0
        subst ht1
        rfl
      have EX : (E.agg [(E.str (markT (q))), (E.lst 4 116 y1A y1c (E.mkcL y1l (q + 1)))]) = (E.agg [.str y0, .lst 4 116 y1A y1c y1l]).mkc q := FF _ _ (by first | rfl | omega | (show _ = _; simp only [E.cnt, E.cntL, E.cntc, E.cntcL, reduceCtorEq, if_false, if_true, ite_false]; omega)) (by first | rfl | omega | (show _ = _; simp only [E.cnt, E.cntL, E.cntc, E.cntcL, reduceCtorEq, if_false, if_true, ite_false]; omega))
      have hs' := hs.below hb (Nat.le_refl _)
      have hin := (hr.el (List.getElem_mem hlm)).below hb (Nat.le_refl _)
      obtain ⟨b, o, rfl, hbl, hc⟩ := hs'.at_ hlm
      rw [E.mkcL_at l k0 k hlt, ex, ← HQ.out, ← EX] at hc hin
      clear EX FF
      have HEX := Lib.hid ex
      clear ex hlm hs'
      have c0_0 : wr.cell? ⟨b, o + k * 2, none⟩ = some (.string (markT (q))) := by have h := hc 0 _ rfl; exact h
      have c0_1 : wr.cell? ⟨b, o + k * 2 + 1, none⟩ = some (.slice y1A y1l.length y1c) := by have h := hc 1 _ rfl; simpa only [Nat.mul_one, Nat.add_zero, E.mkcL_len] using h
      clear hc
      have hi1 : ((E.lst 4 116 y1A y1c y1l).mk0 (q + 1)).In wr := (E.In.fld (i := 1) hin rfl)
      clear hin
      go_wp2_with fail
      go_region_held3 (fun w' => w'.cell? ⟨b, o + k * 2, none⟩ = some (.string (markT (q)))) (first | assumption | skip) ((go_at_call 112; refine (markText_any _ _ (by omega)).mono ?_; rintro e w1 ⟨rfl, hb1⟩; have hz1 := hb1.size; (try simp only [World.size_alloc, World.size_drew, World.heap_drewN, World.size_setCell] at hz1); have c1_0 := cell_below hb1 c0_0 (by first | omega | (simp; omega)); have c1_1 := cell_below hb1 c0_1 (by first | omega | (simp; omega)); have hi1 : ((E.lst 4 116 y1A y1c y1l).mk0 (q + 1)).In w1 := (by repeat (first | (with_reducible assumption) | (with_reducible refine E.In.drew ?_) | (with_reducible refine E.In.drewN ?_ _) | (with_reducible refine E.In.alloc ?_ _) | (refine E.In.below ?_ (by with_reducible assumption) ?_) | omega | (· simp) | (· (simp; omega))))))
      go_wp2_with fail
      go_at_call 160
      refine (HC1.out _ _ hi1 (by omega) (by omega)).mono ?_; rintro e w2 ⟨rfl, hb2⟩; have hz2 := hb2.size; have c2_1 := cell_below hb2 c1_1 (by first | omega | (simp; omega))
      go_wp2_with fail
      go_roundw
      case rel => exact ⟨k + 1, _, by omega, by go_num, rfl, (by show _ = _; have e1 := HQ.out; have e2 := HT.out; rw [HEX.out, HCX.out] at e2; omega), by exact (by repeat (first | (with_reducible refine Below.setCell ?_ (by first | omega | (· simp) | (· (simp; omega))) _) | (with_reducible refine Below.alloc ?_ (by first | omega | (· simp) | (· (simp; omega))) _) | (with_reducible refine Below.drew ?_) | (with_reducible refine bdrewN ?_ _) | (with_reducible exact Below.refl _ _) | (with_reducible assumption) | (with_reducible refine Below.trans ?_ (Below.mono (by assumption) (by first | omega | (· simp) | (· (simp; omega))))) | (with_reducible refine Below.trans ?_ (Kp.below (by assumption) (by first | omega | (· simp) | (· (simp; omega))) (by first | omega | (· simp) | (· (simp; omega)))))))⟩
      case measure => simp [intOf]; omega
    · have hk' : k = l.length := by omega
      subst hk'
      go_wp2
      go_ret
      have e1 := HQ.out
      rw [List.take_length] at e1
      exact ⟨ri e1, hb⟩
theorem markTableS_all {e : E} (ht : e.Ty Try.prog 43) : Mar 111 e := by
  obtain ⟨A, c, l, rfl, h1, h2⟩ := ht.lst_ Try.underlying43 (k := 2) (by kernel_rfl)
  exact markTableS_all' A c l h1 h2
theorem heldTableS_all {e : E} (ht : e.Ty Try.prog 43) : Hel 114 e := by
  obtain ⟨A, c, l, rfl, h1, h2⟩ := ht.lst_ Try.underlying43 (k := 2) (by kernel_rfl)
  exact heldTableS_all' A c l h1 h2
end Go.Proofs.Ytfnnbjkjfoiboaa
