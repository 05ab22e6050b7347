/- Slices of numbers, bytes, strings: the laws' own functions. -/
import Derived.Test.YtkhioiehcaaejaaDoorU4
import Derived.Deep.RegionHeld3
namespace Go.Proofs.YtkhioiehcaaejaaDoor
open Go.RowKit

set_option maxRecDepth 100000 in
set_option maxHeartbeats 1000000 in
theorem szByteS_all' (A : Option Addr) (c : Nat) (l : List E) (ht : ∀ y ∈ l, y.Ty Tryd.prog 5) : Sz 68 (.lst 1 5 A c l) := by
  intro left w hr h0 h1
  have hs := hr.sl
  have hlen := hs.len_le
  have HSZ : Hid ((E.lst 1 5 A c l).sz = l.length + E.szL l) := rfl
  change Calls _ _ #[.slice A l.length c, .int .i64 left] w _
  have hz0 : E.szL l = 0 := E.szL_zero fun y hy => by
    obtain ⟨n, rfl, _⟩ := (ht y hy).int_ Tryd.underlying5
    rfl
  have HZ0 := Lib.hid hz0
  clear hz0
  go_enter Tryd.func68, Tryd.ntmps68
  by_cases hn : left - l.length < 0
  · go_wp2
    go_ret
    exact ⟨-1, rfl, .inl (by omega), by omega, by exact (by repeat (first | (with_reducible refine Below.setCell ?_ (by first | omega | (· simp) | (· (simp; omega))) _) | (with_reducible refine Below.alloc ?_ (by first | omega | (· simp) | (· (simp; omega))) _) | (with_reducible refine Below.drew ?_) | (with_reducible refine bdrewN ?_ _) | (with_reducible exact Below.refl _ _) | (with_reducible assumption) | (with_reducible refine Below.trans ?_ (Below.mono (by assumption) (by first | omega | (· simp) | (· (simp; omega))))) | (with_reducible refine Below.trans ?_ (Kp.below (by assumption) (by first | omega | (· simp) | (· (simp; omega))) (by first | omega | (· simp) | (· (simp; omega)))))))⟩
  go_wp2
  go_ret
  refine ⟨_, rfl, .inr ?_, by omega, by exact (by repeat (first | (with_reducible refine Below.setCell ?_ (by first | omega | (· simp) | (· (simp; omega))) _) | (with_reducible refine Below.alloc ?_ (by first | omega | (· simp) | (· (simp; omega))) _) | (with_reducible refine Below.drew ?_) | (with_reducible refine bdrewN ?_ _) | (with_reducible exact Below.refl _ _) | (with_reducible assumption) | (with_reducible refine Below.trans ?_ (Below.mono (by assumption) (by first | omega | (· simp) | (· (simp; omega))))) | (with_reducible refine Below.trans ?_ (Kp.below (by assumption) (by first | omega | (· simp) | (· (simp; omega))) (by first | omega | (· simp) | (· (simp; omega)))))))⟩
  show _ = _
  rw [HSZ.out, HZ0.out]
  push_cast
  omega
theorem szByteS_all {e : E} (ht : e.Ty Tryd.prog 28) : Sz 68 e := by
  obtain ⟨A, c, l, rfl, h1, _⟩ := ht.lst_ Tryd.underlying28 (k := 1) (by kernel_rfl)
  exact szByteS_all' A c l h1
theorem einfoByteS : (Tryd.prog.info? 5).map (fun i => (i.zero, i.size, i.bytes)) = some (some (.int .u8 0), 1, 1) := by kernel_rfl
set_option maxRecDepth 100000 in
set_option maxHeartbeats 1000000 in
theorem toByteS_all {e : E} (ht : e.Ty Tryd.prog 28) : To 71 28 e := by
  obtain ⟨A, c, l, rfl, h1, h2⟩ := ht.lst_ Tryd.underlying28 (k := 1) (by kernel_rfl)
  intro w hr hsz
  have hs := hr.sl
  have hn : l.length ≤ 1048576 := by have e : (E.lst 1 5 A c l).sz = l.length + E.szL l := rfl; omega
  have hmk := mk_eq Tryd.underlying28 einfoByteS l.length (by omega) (by omega)
  have hF := Fill.new w 5 #[.int .u8 0] l.length (E.encL l)
  have hxs := E.encL_len h2
  rw [Nat.mul_one] at hxs
  have HX := Lib.hid hxs
  have H1 := Lib.hid h1
  have H2 := Lib.hid h2
  clear hxs h1 h2
  change Calls _ _ #[.slice A l.length c] w _
  go_enter Tryd.func71, Tryd.ntmps71
  go_wp2
  go_loopw [4] (fun i wr => ∃ (k : Nat), k ≤ l.length ∧ i = .int .i64 k ∧ Fill wr w.heap.size 5 l.length k (E.encL l) ∧ Below w.heap.size w wr) (fun i _ => l.length - (intOf i).toNat)
  case atStart => exact ⟨0, Nat.zero_le _, rfl, hF, by exact (by repeat (first | (with_reducible refine Below.setCell ?_ (by first | omega | (· simp) | (· (simp; omega))) _) | (with_reducible refine Below.alloc ?_ (by first | omega | (· simp) | (· (simp; omega))) _) | (with_reducible refine Below.drew ?_) | (with_reducible refine bdrewN ?_ _) | (with_reducible exact Below.refl _ _) | (with_reducible assumption) | (with_reducible refine Below.trans ?_ (Below.mono (by assumption) (by first | omega | (· simp) | (· (simp; omega))))) | (with_reducible refine Below.trans ?_ (Kp.below (by assumption) (by first | omega | (· simp) | (· (simp; omega))) (by first | omega | (· simp) | (· (simp; omega)))))))⟩
  case round =>
    obtain ⟨k, hk, rfl, hf, hb⟩ := hrel
    by_cases hlt : k < l.length
    · have hs' := hs.below hb (Nat.le_refl _)
      obtain ⟨b, o, rfl, _, hcell⟩ := hs'.at1 hlt
      have hx := E.encL_at H2.out k hlt 0 (by omega)
      obtain ⟨n, ex, gn⟩ := (H1.out _ (List.getElem_mem hlt)).int_ Tryd.underlying5
      have hcell := hcell _ (by rw [ex]; rfl)
      obtain ⟨u, hc2⟩ := hf.cell hlt
      have hf2 := hf.frozen k
      rw [Nat.mul_one, Nat.add_zero, ex] at hx
      have R := (hf.set hlt hx)
      clear hx hf ex
      go_wp2
      go_roundw
      case rel => exact ⟨k + 1, by omega, by go_num, R, hb.setCell (Nat.le_refl _) _⟩
      case measure => simp [intOf]; omega
    · have hk' : k = l.length := by omega
      subst hk'
      go_wp2
      go_ret
      have hfl : ∀ e ∈ l, e.fp = [] := fun e he => by
        obtain ⟨n, rfl, _⟩ := (H1.out e he).int_ Tryd.underlying5
        rfl
      refine ⟨.lst 1 5 (some ⟨w.heap.size, 0, none⟩) l.length l, rfl, lst_d.2 rfl, E.Ty.mk_lst Tryd.underlying28 (by kernel_rfl) H1.out H2.out, E.Ho.mk (Ow.of_owns (hf.owns (Nat.le_refl _) (Nat.mul_one _).symm HX.out (by unfold maxLen; omega)) (Nat.le_refl _)) H2.out (fun e he => ?_), ?_, hb⟩
      · obtain ⟨n, rfl, _⟩ := (H1.out e he).int_ Tryd.underlying5
        trivial
      · simp only [E.fp, E.fpL_nil hfl]; simp
set_option maxRecDepth 100000 in
set_option maxHeartbeats 1000000 in
theorem eqByteS_all' (A B : Option Addr) (c c' : Nat) (l m : List E) (h1 : ∀ y ∈ l, y.Ty Tryd.prog 5) (h2 : ∀ y ∈ m, y.Ty Tryd.prog 5) : Eq 75 (.lst 1 5 A c l) (.lst 1 5 B c' m) := by
  intro hd w hr hr'
  rw [lst_d] at hd
  have hs := hr.sl
  have hs' := hr'.sl
  have hml := d_len hd
  have HD := Lib.hid hd
  clear hd
  have hlen := hs.len_le
  change Calls _ _ #[.slice A l.length c, .slice B m.length c'] w _
  obtain ⟨N, HN⟩ : ∃ N, Hid (m.length = N) := ⟨_, rfl⟩
  have hN : N = l.length := by have := HN.out; omega
  subst hN
  rw [HN.out]
  clear hml
  go_enter Tryd.func75, Tryd.ntmps75
  go_wp2
  go_loopw [5] (fun i wr => ∃ (k : Nat), k ≤ l.length ∧ i = .int .i64 k ∧ Below w.heap.size w wr) (fun i _ => l.length - (intOf i).toNat)
  case atStart => exact ⟨0, Nat.zero_le _, rfl, Below.refl _ _⟩
  case round =>
    obtain ⟨k, hk, rfl, hb⟩ := hrel
    by_cases hlt : k < l.length
    · have hltm : k < m.length := by have := HN.out; omega
      have hsb := hs.below hb (Nat.le_refl _)
      have hsb' := hs'.below hb (Nat.le_refl _)
      have hdk := d_at HD.out hlt hltm
      obtain ⟨b, o, rfl, _, hc⟩ := hsb.at_ hlt
      obtain ⟨b', o', rfl, _, hd⟩ := hsb'.at_ hltm
      obtain ⟨a, ea, ga⟩ := (h1 _ (List.getElem_mem hlt)).int_ Tryd.underlying5
      obtain ⟨a2, eb, gb⟩ := (h2 _ (List.getElem_mem hltm)).int_ Tryd.underlying5
      rw [ea, eb] at hdk
      simp only [E.d, E.int.injEq, E.str.injEq, true_and] at hdk
      subst hdk
      rw [ea] at hc
      rw [eb] at hd
      clear ea eb
      have c0 := hc 0 _ rfl
      have d0 := hd 0 _ rfl
      rw [Nat.add_zero, Nat.mul_one] at c0 d0
      clear hc hd
      go_wp2
      go_quiet (fail)
      go_wp2
      go_roundw
      case rel => exact ⟨k + 1, by omega, by go_num, by exact (by repeat (first | (with_reducible refine Below.setCell ?_ (by first | omega | (· simp) | (· (simp; omega))) _) | (with_reducible refine Below.alloc ?_ (by first | omega | (· simp) | (· (simp; omega))) _) | (with_reducible refine Below.drew ?_) | (with_reducible refine bdrewN ?_ _) | (with_reducible exact Below.refl _ _) | (with_reducible assumption) | (with_reducible refine Below.trans ?_ (Below.mono (by assumption) (by first | omega | (· simp) | (· (simp; omega))))) | (with_reducible refine Below.trans ?_ (Kp.below (by assumption) (by first | omega | (· simp) | (· (simp; omega))) (by first | omega | (· simp) | (· (simp; omega)))))))⟩
      case measure => simp [intOf]; omega
    · go_wp2
      go_ret
      exact ⟨rfl, hb⟩
theorem eqByteS_all {e e' : E} (ht : e.Ty Tryd.prog 28) (ht' : e'.Ty Tryd.prog 28) : Eq 75 e e' := by
  obtain ⟨A, c, l, rfl, h1, _⟩ := ht.lst_ Tryd.underlying28 (k := 1) (by kernel_rfl)
  obtain ⟨B, c', m, rfl, h2, _⟩ := ht'.lst_ Tryd.underlying28 (k := 1) (by kernel_rfl)
  exact eqByteS_all' A B c c' l m h1 h2
set_option maxRecDepth 100000 in
set_option maxHeartbeats 1000000 in
theorem szIntS_all' (A : Option Addr) (c : Nat) (l : List E) (ht : ∀ y ∈ l, y.Ty Tryd.prog 3) : Sz 77 (.lst 1 3 A c l) := by
  intro left w hr h0 h1
  have hs := hr.sl
  have hlen := hs.len_le
  have HSZ : Hid ((E.lst 1 3 A c l).sz = l.length + E.szL l) := rfl
  change Calls _ _ #[.slice A l.length c, .int .i64 left] w _
  have hz0 : E.szL l = 0 := E.szL_zero fun y hy => by
    obtain ⟨n, rfl, _⟩ := (ht y hy).int_ Tryd.underlying3
    rfl
  have HZ0 := Lib.hid hz0
  clear hz0
  go_enter Tryd.func77, Tryd.ntmps77
  by_cases hn : left - l.length < 0
  · go_wp2
    go_ret
    exact ⟨-1, rfl, .inl (by omega), by omega, by exact (by repeat (first | (with_reducible refine Below.setCell ?_ (by first | omega | (· simp) | (· (simp; omega))) _) | (with_reducible refine Below.alloc ?_ (by first | omega | (· simp) | (· (simp; omega))) _) | (with_reducible refine Below.drew ?_) | (with_reducible refine bdrewN ?_ _) | (with_reducible exact Below.refl _ _) | (with_reducible assumption) | (with_reducible refine Below.trans ?_ (Below.mono (by assumption) (by first | omega | (· simp) | (· (simp; omega))))) | (with_reducible refine Below.trans ?_ (Kp.below (by assumption) (by first | omega | (· simp) | (· (simp; omega))) (by first | omega | (· simp) | (· (simp; omega)))))))⟩
  go_wp2
  go_ret
  refine ⟨_, rfl, .inr ?_, by omega, by exact (by repeat (first | (with_reducible refine Below.setCell ?_ (by first | omega | (· simp) | (· (simp; omega))) _) | (with_reducible refine Below.alloc ?_ (by first | omega | (· simp) | (· (simp; omega))) _) | (with_reducible refine Below.drew ?_) | (with_reducible refine bdrewN ?_ _) | (with_reducible exact Below.refl _ _) | (with_reducible assumption) | (with_reducible refine Below.trans ?_ (Below.mono (by assumption) (by first | omega | (· simp) | (· (simp; omega))))) | (with_reducible refine Below.trans ?_ (Kp.below (by assumption) (by first | omega | (· simp) | (· (simp; omega))) (by first | omega | (· simp) | (· (simp; omega)))))))⟩
  show _ = _
  rw [HSZ.out, HZ0.out]
  push_cast
  omega
theorem szIntS_all {e : E} (ht : e.Ty Tryd.prog 76) : Sz 77 e := by
  obtain ⟨A, c, l, rfl, h1, _⟩ := ht.lst_ Tryd.underlying76 (k := 1) (by kernel_rfl)
  exact szIntS_all' A c l h1
theorem einfoIntS : (Tryd.prog.info? 3).map (fun i => (i.zero, i.size, i.bytes)) = some (some (.int .i64 0), 1, 8) := by kernel_rfl
set_option maxRecDepth 100000 in
set_option maxHeartbeats 1000000 in
theorem toIntS_all {e : E} (ht : e.Ty Tryd.prog 76) : To 81 76 e := by
  obtain ⟨A, c, l, rfl, h1, h2⟩ := ht.lst_ Tryd.underlying76 (k := 1) (by kernel_rfl)
  intro w hr hsz
  have hs := hr.sl
  have hn : l.length ≤ 1048576 := by have e : (E.lst 1 3 A c l).sz = l.length + E.szL l := rfl; omega
  have hmk := mk_eq Tryd.underlying76 einfoIntS l.length (by omega) (by omega)
  have hF := Fill.new w 3 #[.int .i64 0] l.length (E.encL l)
  have hxs := E.encL_len h2
  rw [Nat.mul_one] at hxs
  have HX := Lib.hid hxs
  have H1 := Lib.hid h1
  have H2 := Lib.hid h2
  clear hxs h1 h2
  change Calls _ _ #[.slice A l.length c] w _
  go_enter Tryd.func81, Tryd.ntmps81
  go_wp2
  go_loopw [4] (fun i wr => ∃ (k : Nat), k ≤ l.length ∧ i = .int .i64 k ∧ Fill wr w.heap.size 3 l.length k (E.encL l) ∧ Below w.heap.size w wr) (fun i _ => l.length - (intOf i).toNat)
  case atStart => exact ⟨0, Nat.zero_le _, rfl, hF, by exact (by repeat (first | (with_reducible refine Below.setCell ?_ (by first | omega | (· simp) | (· (simp; omega))) _) | (with_reducible refine Below.alloc ?_ (by first | omega | (· simp) | (· (simp; omega))) _) | (with_reducible refine Below.drew ?_) | (with_reducible refine bdrewN ?_ _) | (with_reducible exact Below.refl _ _) | (with_reducible assumption) | (with_reducible refine Below.trans ?_ (Below.mono (by assumption) (by first | omega | (· simp) | (· (simp; omega))))) | (with_reducible refine Below.trans ?_ (Kp.below (by assumption) (by first | omega | (· simp) | (· (simp; omega))) (by first | omega | (· simp) | (· (simp; omega)))))))⟩
  case round =>
    obtain ⟨k, hk, rfl, hf, hb⟩ := hrel
    by_cases hlt : k < l.length
    · have hs' := hs.below hb (Nat.le_refl _)
      obtain ⟨b, o, rfl, _, hcell⟩ := hs'.at1 hlt
      have hx := E.encL_at H2.out k hlt 0 (by omega)
      obtain ⟨n, ex, gn⟩ := (H1.out _ (List.getElem_mem hlt)).int_ Tryd.underlying3
      have hcell := hcell _ (by rw [ex]; rfl)
      obtain ⟨u, hc2⟩ := hf.cell hlt
      have hf2 := hf.frozen k
      rw [Nat.mul_one, Nat.add_zero, ex] at hx
      have R := (hf.set hlt hx)
      clear hx hf ex
      go_wp2
      go_roundw
      case rel => exact ⟨k + 1, by omega, by go_num, R, hb.setCell (Nat.le_refl _) _⟩
      case measure => simp [intOf]; omega
    · have hk' : k = l.length := by omega
      subst hk'
      go_wp2
      go_ret
      have hfl : ∀ e ∈ l, e.fp = [] := fun e he => by
        obtain ⟨n, rfl, _⟩ := (H1.out e he).int_ Tryd.underlying3
        rfl
      refine ⟨.lst 1 3 (some ⟨w.heap.size, 0, none⟩) l.length l, rfl, lst_d.2 rfl, E.Ty.mk_lst Tryd.underlying76 (by kernel_rfl) H1.out H2.out, E.Ho.mk (Ow.of_owns (hf.owns (Nat.le_refl _) (Nat.mul_one _).symm HX.out (by unfold maxLen; omega)) (Nat.le_refl _)) H2.out (fun e he => ?_), ?_, hb⟩
      · obtain ⟨n, rfl, _⟩ := (H1.out e he).int_ Tryd.underlying3
        trivial
      · simp only [E.fp, E.fpL_nil hfl]; simp
set_option maxRecDepth 100000 in
set_option maxHeartbeats 1000000 in
theorem eqIntS_all' (A B : Option Addr) (c c' : Nat) (l m : List E) (h1 : ∀ y ∈ l, y.Ty Tryd.prog 3) (h2 : ∀ y ∈ m, y.Ty Tryd.prog 3) : Eq 85 (.lst 1 3 A c l) (.lst 1 3 B c' m) := by
  intro hd w hr hr'
  rw [lst_d] at hd
  have hs := hr.sl
  have hs' := hr'.sl
  have hml := d_len hd
  have HD := Lib.hid hd
  clear hd
  have hlen := hs.len_le
  change Calls _ _ #[.slice A l.length c, .slice B m.length c'] w _
  obtain ⟨N, HN⟩ : ∃ N, Hid (m.length = N) := ⟨_, rfl⟩
  have hN : N = l.length := by have := HN.out; omega
  subst hN
  rw [HN.out]
  clear hml
  go_enter Tryd.func85, Tryd.ntmps85
  go_wp2
  go_loopw [5] (fun i wr => ∃ (k : Nat), k ≤ l.length ∧ i = .int .i64 k ∧ Below w.heap.size w wr) (fun i _ => l.length - (intOf i).toNat)
  case atStart => exact ⟨0, Nat.zero_le _, rfl, Below.refl _ _⟩
  case round =>
    obtain ⟨k, hk, rfl, hb⟩ := hrel
    by_cases hlt : k < l.length
    · have hltm : k < m.length := by have := HN.out; omega
      have hsb := hs.below hb (Nat.le_refl _)
      have hsb' := hs'.below hb (Nat.le_refl _)
      have hdk := d_at HD.out hlt hltm
      obtain ⟨b, o, rfl, _, hc⟩ := hsb.at_ hlt
      obtain ⟨b', o', rfl, _, hd⟩ := hsb'.at_ hltm
      obtain ⟨a, ea, ga⟩ := (h1 _ (List.getElem_mem hlt)).int_ Tryd.underlying3
      obtain ⟨a2, eb, gb⟩ := (h2 _ (List.getElem_mem hltm)).int_ Tryd.underlying3
      rw [ea, eb] at hdk
      simp only [E.d, E.int.injEq, E.str.injEq, true_and] at hdk
      subst hdk
      rw [ea] at hc
      rw [eb] at hd
      clear ea eb
      have c0 := hc 0 _ rfl
      have d0 := hd 0 _ rfl
      rw [Nat.add_zero, Nat.mul_one] at c0 d0
      clear hc hd
      go_wp2
      go_quiet (fail)
      go_wp2
      go_roundw
      case rel => exact ⟨k + 1, by omega, by go_num, by exact (by repeat (first | (with_reducible refine Below.setCell ?_ (by first | omega | (· simp) | (· (simp; omega))) _) | (with_reducible refine Below.alloc ?_ (by first | omega | (· simp) | (· (simp; omega))) _) | (with_reducible refine Below.drew ?_) | (with_reducible refine bdrewN ?_ _) | (with_reducible exact Below.refl _ _) | (with_reducible assumption) | (with_reducible refine Below.trans ?_ (Below.mono (by assumption) (by first | omega | (· simp) | (· (simp; omega))))) | (with_reducible refine Below.trans ?_ (Kp.below (by assumption) (by first | omega | (· simp) | (· (simp; omega))) (by first | omega | (· simp) | (· (simp; omega)))))))⟩
      case measure => simp [intOf]; omega
    · go_wp2
      go_ret
      exact ⟨rfl, hb⟩
theorem eqIntS_all {e e' : E} (ht : e.Ty Tryd.prog 76) (ht' : e'.Ty Tryd.prog 76) : Eq 85 e e' := by
  obtain ⟨A, c, l, rfl, h1, _⟩ := ht.lst_ Tryd.underlying76 (k := 1) (by kernel_rfl)
  obtain ⟨B, c', m, rfl, h2, _⟩ := ht'.lst_ Tryd.underlying76 (k := 1) (by kernel_rfl)
  exact eqIntS_all' A B c c' l m h1 h2
set_option maxRecDepth 100000 in
set_option maxHeartbeats 1000000 in
theorem szStringS_all' (A : Option Addr) (c : Nat) (l : List E) (ht : ∀ y ∈ l, y.Ty Tryd.prog 9) : Sz 58 (.lst 1 9 A c l) := by
  intro left w hr h0 h1
  have hs := hr.sl
  have hlen := hs.len_le
  have HSZ : Hid ((E.lst 1 9 A c l).sz = l.length + E.szL l) := rfl
  change Calls _ _ #[.slice A l.length c, .int .i64 left] w _
  by_cases hneg : left - l.length < 0
  · go_enter Tryd.func58, Tryd.ntmps58
    go_wp2
    go_ret
    exact ⟨-1, rfl, .inl (by omega), by omega, by exact (by repeat (first | (with_reducible refine Below.setCell ?_ (by first | omega | (· simp) | (· (simp; omega))) _) | (with_reducible refine Below.alloc ?_ (by first | omega | (· simp) | (· (simp; omega))) _) | (with_reducible refine Below.drew ?_) | (with_reducible refine bdrewN ?_ _) | (with_reducible exact Below.refl _ _) | (with_reducible assumption) | (with_reducible refine Below.trans ?_ (Below.mono (by assumption) (by first | omega | (· simp) | (· (simp; omega))))) | (with_reducible refine Below.trans ?_ (Kp.below (by assumption) (by first | omega | (· simp) | (· (simp; omega))) (by first | omega | (· simp) | (· (simp; omega)))))))⟩
  go_enter Tryd.func58, Tryd.ntmps58
  go_wp2
  go_loopw [1, 5] (fun v i wr => ∃ (k : Nat) (cur : Int), k ≤ l.length ∧ i = .int .i64 k ∧ v = .int .i64 cur ∧ 0 ≤ cur ∧ cur ≤ left ∧ Hid (cur + E.szL (l.take k) + l.length = left) ∧ Below w.heap.size w wr) (fun _ i _ => l.length - (intOf i).toNat)
  case atStart => exact ⟨0, _, Nat.zero_le _, rfl, rfl, by omega, by omega, (by show _ = _; simp [E.szL]), Below.refl _ _⟩
  case round =>
    obtain ⟨k, cur, hk, rfl, rfl, hc0, hc1, HQ, hb⟩ := hrel
    have hzb := hb.size
    by_cases hlt : k < l.length
    · have hs' := hs.below hb (Nat.le_refl _)
      have HT := Lib.hid (E.szL_take l k hlt)
      obtain ⟨b, o, rfl, _, hc⟩ := hs'.at_ hlt
      obtain ⟨s, ex, gs⟩ := (ht _ (List.getElem_mem hlt)).str_ Tryd.underlying9
      rw [ex] at hc
      have c0 := hc 0 _ rfl
      rw [Nat.add_zero, Nat.mul_one] at c0
      clear hc
      have HEX := Lib.hid ex
      clear ex
      by_cases hn : cur - s.size < 0
      · go_wp2
        go_ret
        exact ⟨-1, rfl, .inl (by omega), by omega, by exact (by repeat (first | (with_reducible refine Below.setCell ?_ (by first | omega | (· simp) | (· (simp; omega))) _) | (with_reducible refine Below.alloc ?_ (by first | omega | (· simp) | (· (simp; omega))) _) | (with_reducible refine Below.drew ?_) | (with_reducible refine bdrewN ?_ _) | (with_reducible exact Below.refl _ _) | (with_reducible assumption) | (with_reducible refine Below.trans ?_ (Below.mono (by assumption) (by first | omega | (· simp) | (· (simp; omega))))) | (with_reducible refine Below.trans ?_ (Kp.below (by assumption) (by first | omega | (· simp) | (· (simp; omega))) (by first | omega | (· simp) | (· (simp; omega)))))))⟩
      · go_wp2
        go_roundw
        case rel => exact ⟨k + 1, _, by omega, by go_num, rfl, by omega, by omega, (by show _ = _; have e1 := HQ.out; have e2 := HT.out; rw [HEX.out] at e2; simp only [E.sz] at e2; omega), by exact (by repeat (first | (with_reducible refine Below.setCell ?_ (by first | omega | (· simp) | (· (simp; omega))) _) | (with_reducible refine Below.alloc ?_ (by first | omega | (· simp) | (· (simp; omega))) _) | (with_reducible refine Below.drew ?_) | (with_reducible refine bdrewN ?_ _) | (with_reducible exact Below.refl _ _) | (with_reducible assumption) | (with_reducible refine Below.trans ?_ (Below.mono (by assumption) (by first | omega | (· simp) | (· (simp; omega))))) | (with_reducible refine Below.trans ?_ (Kp.below (by assumption) (by first | omega | (· simp) | (· (simp; omega))) (by first | omega | (· simp) | (· (simp; omega)))))))⟩
        case measure => simp [intOf]; omega
    · have hk' : k = l.length := by omega
      subst hk'
      go_wp2
      go_ret
      refine ⟨_, rfl, .inr ?_, by omega, hb⟩
      show _ = _
      have e1 := HQ.out
      rw [List.take_length] at e1
      rw [HSZ.out]
      push_cast
      omega
theorem szStringS_all {e : E} (ht : e.Ty Tryd.prog 40) : Sz 58 e := by
  obtain ⟨A, c, l, rfl, h1, _⟩ := ht.lst_ Tryd.underlying40 (k := 1) (by kernel_rfl)
  exact szStringS_all' A c l h1
theorem einfoStringS : (Tryd.prog.info? 9).map (fun i => (i.zero, i.size, i.bytes)) = some (some (.string ByteArray.empty), 1, 16) := by kernel_rfl
set_option maxRecDepth 100000 in
set_option maxHeartbeats 1000000 in
theorem toStringS_all {e : E} (ht : e.Ty Tryd.prog 40) : To 61 40 e := by
  obtain ⟨A, c, l, rfl, h1, h2⟩ := ht.lst_ Tryd.underlying40 (k := 1) (by kernel_rfl)
  intro w hr hsz
  have hs := hr.sl
  have hn : l.length ≤ 1048576 := by have e : (E.lst 1 9 A c l).sz = l.length + E.szL l := rfl; omega
  have hmk := mk_eq Tryd.underlying40 einfoStringS l.length (by omega) (by omega)
  have hF := Fill.new w 9 #[.string ByteArray.empty] l.length (E.encL l)
  have hxs := E.encL_len h2
  rw [Nat.mul_one] at hxs
  have HX := Lib.hid hxs
  have H1 := Lib.hid h1
  have H2 := Lib.hid h2
  clear hxs h1 h2
  change Calls _ _ #[.slice A l.length c] w _
  go_enter Tryd.func61, Tryd.ntmps61
  go_wp2
  go_loopw [4] (fun i wr => ∃ (k : Nat), k ≤ l.length ∧ i = .int .i64 k ∧ Fill wr w.heap.size 9 l.length k (E.encL l) ∧ Below w.heap.size w wr) (fun i _ => l.length - (intOf i).toNat)
  case atStart => exact ⟨0, Nat.zero_le _, rfl, hF, by exact (by repeat (first | (with_reducible refine Below.setCell ?_ (by first | omega | (· simp) | (· (simp; omega))) _) | (with_reducible refine Below.alloc ?_ (by first | omega | (· simp) | (· (simp; omega))) _) | (with_reducible refine Below.drew ?_) | (with_reducible refine bdrewN ?_ _) | (with_reducible exact Below.refl _ _) | (with_reducible assumption) | (with_reducible refine Below.trans ?_ (Below.mono (by assumption) (by first | omega | (· simp) | (· (simp; omega))))) | (with_reducible refine Below.trans ?_ (Kp.below (by assumption) (by first | omega | (· simp) | (· (simp; omega))) (by first | omega | (· simp) | (· (simp; omega)))))))⟩
  case round =>
    obtain ⟨k, hk, rfl, hf, hb⟩ := hrel
    by_cases hlt : k < l.length
    · have hs' := hs.below hb (Nat.le_refl _)
      obtain ⟨b, o, rfl, _, hcell⟩ := hs'.at1 hlt
      have hx := E.encL_at H2.out k hlt 0 (by omega)
      obtain ⟨n, ex, gn⟩ := (H1.out _ (List.getElem_mem hlt)).str_ Tryd.underlying9
      have hcell := hcell _ (by rw [ex]; rfl)
      obtain ⟨u, hc2⟩ := hf.cell hlt
      have hf2 := hf.frozen k
      rw [Nat.mul_one, Nat.add_zero, ex] at hx
      have R := (hf.set hlt hx)
      clear hx hf ex
      go_wp2
      go_roundw
      case rel => exact ⟨k + 1, by omega, by go_num, R, hb.setCell (Nat.le_refl _) _⟩
      case measure => simp [intOf]; omega
    · have hk' : k = l.length := by omega
      subst hk'
      go_wp2
      go_ret
      have hfl : ∀ e ∈ l, e.fp = [] := fun e he => by
        obtain ⟨n, rfl, _⟩ := (H1.out e he).str_ Tryd.underlying9
        rfl
      refine ⟨.lst 1 9 (some ⟨w.heap.size, 0, none⟩) l.length l, rfl, lst_d.2 rfl, E.Ty.mk_lst Tryd.underlying40 (by kernel_rfl) H1.out H2.out, E.Ho.mk (Ow.of_owns (hf.owns (Nat.le_refl _) (Nat.mul_one _).symm HX.out (by unfold maxLen; omega)) (Nat.le_refl _)) H2.out (fun e he => ?_), ?_, hb⟩
      · obtain ⟨n, rfl, _⟩ := (H1.out e he).str_ Tryd.underlying9
        trivial
      · simp only [E.fp, E.fpL_nil hfl]; simp
set_option maxRecDepth 100000 in
set_option maxHeartbeats 1000000 in
theorem eqStringS_all' (A B : Option Addr) (c c' : Nat) (l m : List E) (h1 : ∀ y ∈ l, y.Ty Tryd.prog 9) (h2 : ∀ y ∈ m, y.Ty Tryd.prog 9) : Eq 64 (.lst 1 9 A c l) (.lst 1 9 B c' m) := by
  intro hd w hr hr'
  rw [lst_d] at hd
  have hs := hr.sl
  have hs' := hr'.sl
  have hml := d_len hd
  have HD := Lib.hid hd
  clear hd
  have hlen := hs.len_le
  change Calls _ _ #[.slice A l.length c, .slice B m.length c'] w _
  obtain ⟨N, HN⟩ : ∃ N, Hid (m.length = N) := ⟨_, rfl⟩
  have hN : N = l.length := by have := HN.out; omega
  subst hN
  rw [HN.out]
  clear hml
  go_enter Tryd.func64, Tryd.ntmps64
  go_wp2
  go_loopw [5] (fun i wr => ∃ (k : Nat), k ≤ l.length ∧ i = .int .i64 k ∧ Below w.heap.size w wr) (fun i _ => l.length - (intOf i).toNat)
  case atStart => exact ⟨0, Nat.zero_le _, rfl, Below.refl _ _⟩
  case round =>
    obtain ⟨k, hk, rfl, hb⟩ := hrel
    by_cases hlt : k < l.length
    · have hltm : k < m.length := by have := HN.out; omega
      have hsb := hs.below hb (Nat.le_refl _)
      have hsb' := hs'.below hb (Nat.le_refl _)
      have hdk := d_at HD.out hlt hltm
      obtain ⟨b, o, rfl, _, hc⟩ := hsb.at_ hlt
      obtain ⟨b', o', rfl, _, hd⟩ := hsb'.at_ hltm
      obtain ⟨a, ea, ga⟩ := (h1 _ (List.getElem_mem hlt)).str_ Tryd.underlying9
      obtain ⟨a2, eb, gb⟩ := (h2 _ (List.getElem_mem hltm)).str_ Tryd.underlying9
      rw [ea, eb] at hdk
      simp only [E.d, E.int.injEq, E.str.injEq, true_and] at hdk
      subst hdk
      rw [ea] at hc
      rw [eb] at hd
      clear ea eb
      have c0 := hc 0 _ rfl
      have d0 := hd 0 _ rfl
      rw [Nat.add_zero, Nat.mul_one] at c0 d0
      clear hc hd
      go_wp2
      go_quiet (fail)
      go_wp2
      go_roundw
      case rel => exact ⟨k + 1, by omega, by go_num, by exact (by repeat (first | (with_reducible refine Below.setCell ?_ (by first | omega | (· simp) | (· (simp; omega))) _) | (with_reducible refine Below.alloc ?_ (by first | omega | (· simp) | (· (simp; omega))) _) | (with_reducible refine Below.drew ?_) | (with_reducible refine bdrewN ?_ _) | (with_reducible exact Below.refl _ _) | (with_reducible assumption) | (with_reducible refine Below.trans ?_ (Below.mono (by assumption) (by first | omega | (· simp) | (· (simp; omega))))) | (with_reducible refine Below.trans ?_ (Kp.below (by assumption) (by first | omega | (· simp) | (· (simp; omega))) (by first | omega | (· simp) | (· (simp; omega)))))))⟩
      case measure => simp [intOf]; omega
    · go_wp2
      go_ret
      exact ⟨rfl, hb⟩
theorem eqStringS_all {e e' : E} (ht : e.Ty Tryd.prog 40) (ht' : e'.Ty Tryd.prog 40) : Eq 64 e e' := by
  obtain ⟨A, c, l, rfl, h1, _⟩ := ht.lst_ Tryd.underlying40 (k := 1) (by kernel_rfl)
  obtain ⟨B, c', m, rfl, h2, _⟩ := ht'.lst_ Tryd.underlying40 (k := 1) (by kernel_rfl)
  exact eqStringS_all' A B c c' l m h1 h2
end Go.Proofs.YtkhioiehcaaejaaDoor
